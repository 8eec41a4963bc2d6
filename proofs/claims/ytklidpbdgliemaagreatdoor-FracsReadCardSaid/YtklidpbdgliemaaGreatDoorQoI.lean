/-
  All that the outright laws of fractions have in common.
-/
import Derived.Test.YtklidpbdgliemaaGreatDoorQoH
import Derived.WalkKit
import Derived.ProofKit
import Derived.OpenShut
import Derived.Deep.DeepHandedRow
import Derived.Lib.LaidTab
import Derived.Lay
import Derived.MakeChecks
import Derived.Stop.LaidErr
import Derived.Deep.DeepWitnessRowRef
set_option linter.unusedSimpArgs false
set_option linter.unusedVariables false
namespace Go.Proofs.YtklidpbdgliemaaGreatDoor.Limb
open Go.RowKit Go.Sort

def FV.blk (x : FV) (b : Nat) : Prop := x.t.blk b ∨ x.l.blk b
theorem DF.kept {w w' : World} {lo : Nat} {x : FV} {q : Rat} (h : DF w lo x q) (hk : ∀ b, x.blk b → w'.heap[b]? = w.heap[b]?) : DF w' lo x q := ⟨h.t.kept fun b hb => hk b (Or.inl hb), h.l.kept fun b hb => hk b (Or.inr hb), h.ap⟩
theorem DF.blks {w : World} {lo : Nat} {x : FV} {q : Rat} (h : DF w lo x q) : ∀ b, x.blk b → lo ≤ b ∧ b < w.heap.size := fun b hb => hb.elim (h.t.blks b) (h.l.blks b)
theorem FV.injE (c : Int) (x y : FV) (h : Value.tuple #[x.v, .int .i64 c] = .tuple #[y.v, .int .i64 c]) : x = y := by
  simp only [Value.tuple.injEq, Array.mk.injEq, List.cons.injEq, and_true] at h
  exact FV.inj h
theorem bf_of {w : World} {x y : NV} {p q : Int} (h1 : KN w x p) (h2 : KN w y q) (h : ¬ (0 < q ∧ Int.gcd p q = 1)) : BF w ⟨x, y⟩ := ⟨⟨_, _, h1.rd, h2.rd, fun hk => h ⟨by have h3 := hk.2.2.1; rwa [h2.valv] at h3, by have h3 := hk.2.2.2; rwa [h1.valv, h2.valv] at h3⟩⟩, h1.le, h2.le⟩
theorem kn0 (w : World) : KN w ⟨false, none, 0, 0⟩ 0 := ⟨by decide, by show 0 = lenB 0; rw [lenB_zero], Rd.nil w none _, Nat.le_refl 0⟩
theorem lenB_one {m : Nat} (h0 : m ≠ 0) (h : m < 1000000000) : lenB m = 1 := by rw [lenB_pos h0, Nat.div_eq_of_lt h, lenB_zero]
theorem kn_one {w : World} {x : NV} {p : Int} (h : KN w x p) (h0 : p.natAbs ≠ 0) (h1 : p.natAbs < 1000000000) : x.n = 1 ∧ ∃ b o, x.a = some ⟨b, o, none⟩ := by
  have e : x.n = 1 := by rw [h.n, lenB_one h0 h1]
  obtain ⟨b, o, ha, _⟩ := h.rd.cells (by omega)
  exact ⟨e, b, o, ha⟩
theorem kn_cell {w : World} {x : NV} {p : Int} {m : Int} (h : KN w x p) (h0 : p.natAbs ≠ 0) (h1 : p.natAbs < 1000000000) (hm : ((p.natAbs : Nat) : Int) = m) {b o : Nat} (ha : x.a = some ⟨b, o, none⟩) : w.cell? ⟨b, o, none⟩ = some (.int .u32 m) := by
  have e : x.n = 1 := (kn_one h h0 h1).1
  obtain ⟨b', o', ha', hc⟩ := h.rd.cells (by omega)
  rw [ha] at ha'
  cases ha'
  have h2 := hc 0 (by omega)
  rw [show uc (dgi p.natAbs) 0 = .int .u32 m from by show Value.int .u32 ((dg p.natAbs 0 : Nat) : Int) = _; rw [dg_zero, Nat.mod_eq_of_lt h1, hm]] at h2
  exact h2
theorem textQ_of {q : Rat} {n d : Int} (hn : q.num = n) (hd : (q.den : Int) = d) : textQ q = if d = 1 then Lib.itoa n else Lib.itoa n ++ 47 :: Lib.itoa d := by subst hn hd; rfl
theorem text_a {q : Rat} (h : q = ((-1 : Int) : Rat) / ((2 : Int) : Rat)) : textQ q = [45, 49, 47, 50] := by
  rw [textQ_of (n := -1) (d := 2) (by rw [h]; decide +kernel) (by rw [h]; decide +kernel), if_neg (by decide), show (-1 : Int) = -((1 : Nat) : Int) from rfl, Lib.itoa_neg _ (by decide), Lib.decDigits_one (by decide), show (2 : Int) = ((2 : Nat) : Int) from rfl, Lib.itoa_nonneg, Lib.decDigits_one (by decide)]
  rfl
theorem text_b {q : Rat} (h : q = ((3 : Int) : Rat) / ((1 : Int) : Rat)) : textQ q = [51] := by
  rw [textQ_of (n := 3) (d := 1) (by rw [h]; decide +kernel) (by rw [h]; decide +kernel), if_pos rfl, show (3 : Int) = ((3 : Nat) : Int) from rfl, Lib.itoa_nonneg, Lib.decDigits_one (by decide)]
  rfl
theorem form0 : formT [48] := ⟨by decide +kernel, by decide +kernel, by decide +kernel⟩
theorem form2 : formT [45, 50] := ⟨by decide +kernel, by decide +kernel, by decide +kernel⟩
theorem form6 : formT [54] := ⟨by decide +kernel, by decide +kernel, by decide +kernel⟩
theorem form4 : formT [52] := ⟨by decide +kernel, by decide +kernel, by decide +kernel⟩
theorem parse10 (w : World) : Calls Tryz.prog 12 #[.string ⟨#[49, 47, 48]⟩] w (RFX w 4) :=
  qparse_y_one (z1 := 1) (z2 := 0) w (by decide) (show Lib.cut [49, 47, 48] [47] = ([49], [48], true) by decide +kernel) (by decide) (by decide) code1 num1 (codeT_of _ form0 (by decide +kernel)) (numT_of _ _ form0 (by decide +kernel) (by decide +kernel)) ⟨48, [], rfl, by decide⟩ rfl
theorem parse12 (w : World) : Calls Tryz.prog 12 #[.string ⟨#[49, 47, 45, 50]⟩] w (RFX w 4) :=
  qparse_y_neg (z1 := 1) (z2 := -2) w (by decide) (show Lib.cut [49, 47, 45, 50] [47] = ([49], [45, 50], true) by decide +kernel) (by decide) (by decide) code1 num1 (codeT_of _ form2 (by decide +kernel)) (numT_of _ _ form2 (by decide +kernel) (by decide +kernel)) ⟨[50], rfl⟩
theorem parse64 (w : World) : Calls Tryz.prog 12 #[.string ⟨#[54, 47, 52]⟩] w (RFE w (((6 : Int) : Rat) / ((4 : Int) : Rat)) 0) :=
  qparse_y_ok (z1 := 6) (z2 := 4) w (by decide) (show Lib.cut [54, 47, 52] [47] = ([54], [52], true) by decide +kernel) (by decide) (by decide) (codeT_of _ form6 (by decide +kernel)) (numT_of _ _ form6 (by decide +kernel) (by decide +kernel)) (codeT_of _ form4 (by decide +kernel)) (numT_of _ _ form4 (by decide +kernel) (by decide +kernel)) ⟨52, [], rfl, by decide⟩ (by decide) (by decide)
set_option maxRecDepth 100000 in
set_option maxHeartbeats 8000000 in
theorem qalive (w : World) (htab : Tab w) : Calls Tryz.prog 24 #[] w fun e w' => e = .returned (.bool true) ∧ Below w.heap.size w w' := by
  have HT := Lib.hid htab
  have KG := Lib.hid (Below.refl w.heap.size w)
  clear htab
  obtain ⟨z1, hz1⟩ : ∃ z : Int, z = (1 : Int) := ⟨_, rfl⟩
  have Hz1 := Lib.hid hz1
  have LZz1 := Lib.hid (show lenB z1.natAbs ≤ 3 by rw [hz1]; exact len1 (by decide) (by decide))
  clear hz1
  obtain ⟨z5, hz5⟩ : ∃ z : Int, z = (0 : Int) := ⟨_, rfl⟩
  have Hz5 := Lib.hid hz5
  have LZz5 := Lib.hid (show lenB z5.natAbs ≤ 3 by rw [hz5]; exact len1 (by decide) (by decide))
  clear hz5
  obtain ⟨q12, hq12⟩ : ∃ z : Rat, z = ((1 : Int) : Rat) / ((2 : Int) : Rat) := ⟨_, rfl⟩
  have Hq12 := Lib.hid hq12
  have LQq12 := Lib.hid (show LQ q12 3 by rw [hq12]; exact LQ.of (by decide) (by decide) (by decide) (by decide) (by decide))
  clear hq12
  obtain ⟨q16, hq16⟩ : ∃ z : Rat, z = ((-2 : Int) : Rat) / ((1 : Int) : Rat) := ⟨_, rfl⟩
  have Hq16 := Lib.hid hq16
  have LQq16 := Lib.hid (show LQ q16 3 by rw [hq16]; exact LQ.of (by decide) (by decide) (by decide) (by decide) (by decide))
  clear hq16
  obtain ⟨q20, hq20⟩ : ∃ z : Rat, z = q12 / q16 := ⟨_, rfl⟩
  have Hq20 := Lib.hid hq20
  have LQq20 := Lib.hid (show LQ q20 6 by rw [hq20]; exact LQ.div (by rw [Hq16.out]; decide +kernel) (LQq12.out.up (by decide : _ ≤ 3)) (LQq16.out.up (by decide : _ ≤ 3)) (by decide))
  clear hq20
  obtain ⟨q26, hq26⟩ : ∃ z : Rat, z = ((1 : Int) : Rat) / ((1 : Int) : Rat) := ⟨_, rfl⟩
  have Hq26 := Lib.hid hq26
  have LQq26 := Lib.hid (show LQ q26 3 by rw [hq26]; exact LQ.of (by decide) (by decide) (by decide) (by decide) (by decide))
  clear hq26
  obtain ⟨q30, hq30⟩ : ∃ z : Rat, z = ((0 : Int) : Rat) / ((1 : Int) : Rat) := ⟨_, rfl⟩
  have Hq30 := Lib.hid hq30
  have LQq30 := Lib.hid (show LQ q30 3 by rw [hq30]; exact LQ.of (by decide) (by decide) (by decide) (by decide) (by decide))
  clear hq30
  obtain ⟨q44, hq44⟩ : ∃ z : Rat, z = ((6 : Int) : Rat) / ((4 : Int) : Rat) := ⟨_, rfl⟩
  have Hq44 := Lib.hid hq44
  have LQq44 := Lib.hid (show LQ q44 3 by rw [hq44]; exact LQ.of (by decide) (by decide) (by decide) (by decide) (by decide))
  clear hq44
  obtain ⟨q50, hq50⟩ : ∃ z : Rat, z = ((6 : Int) : Rat) / ((-4 : Int) : Rat) := ⟨_, rfl⟩
  have Hq50 := Lib.hid hq50
  have LQq50 := Lib.hid (show LQ q50 3 by rw [hq50]; exact LQ.of (by decide) (by decide) (by decide) (by decide) (by decide))
  clear hq50
  obtain ⟨q56, hq56⟩ : ∃ z : Rat, z = ((-1 : Int) : Rat) / ((4 : Int) : Rat) := ⟨_, rfl⟩
  have Hq56 := Lib.hid hq56
  have LQq56 := Lib.hid (show LQ q56 3 by rw [hq56]; exact LQ.of (by decide) (by decide) (by decide) (by decide) (by decide))
  clear hq56
  obtain ⟨q57, hq57⟩ : ∃ z : Rat, z = ((3 : Int) : Rat) / ((2 : Int) : Rat) := ⟨_, rfl⟩
  have Hq57 := Lib.hid hq57
  have LQq57 := Lib.hid (show LQ q57 3 by rw [hq57]; exact LQ.of (by decide) (by decide) (by decide) (by decide) (by decide))
  clear hq57
  obtain ⟨q58, hq58⟩ : ∃ z : Rat, z = ((1 : Int) : Rat) / ((3 : Int) : Rat) := ⟨_, rfl⟩
  have Hq58 := Lib.hid hq58
  have LQq58 := Lib.hid (show LQ q58 3 by rw [hq58]; exact LQ.of (by decide) (by decide) (by decide) (by decide) (by decide))
  clear hq58
  obtain ⟨q59, hq59⟩ : ∃ z : Rat, z = q12 + q58 := ⟨_, rfl⟩
  have Hq59 := Lib.hid hq59
  have LQq59 := Lib.hid (show LQ q59 7 by rw [hq59]; exact LQ.add (LQq12.out.up (by decide : _ ≤ 3)) (LQq58.out.up (by decide : _ ≤ 3)) (by decide))
  clear hq59
  obtain ⟨q60, hq60⟩ : ∃ z : Rat, z = ((5 : Int) : Rat) / ((6 : Int) : Rat) := ⟨_, rfl⟩
  have Hq60 := Lib.hid hq60
  have LQq60 := Lib.hid (show LQ q60 3 by rw [hq60]; exact LQ.of (by decide) (by decide) (by decide) (by decide) (by decide))
  clear hq60
  obtain ⟨q61, hq61⟩ : ∃ z : Rat, z = ((-1 : Int) : Rat) / ((2 : Int) : Rat) := ⟨_, rfl⟩
  have Hq61 := Lib.hid hq61
  have LQq61 := Lib.hid (show LQ q61 3 by rw [hq61]; exact LQ.of (by decide) (by decide) (by decide) (by decide) (by decide))
  clear hq61
  obtain ⟨q62, hq62⟩ : ∃ z : Rat, z = ((3 : Int) : Rat) / ((1 : Int) : Rat) := ⟨_, rfl⟩
  have Hq62 := Lib.hid hq62
  have LQq62 := Lib.hid (show LQ q62 3 by rw [hq62]; exact LQ.of (by decide) (by decide) (by decide) (by decide) (by decide))
  clear hq62
  obtain ⟨z63, hz63⟩ : ∃ z : Int, z = (2 : Int) := ⟨_, rfl⟩
  have Hz63 := Lib.hid hz63
  have LZz63 := Lib.hid (show lenB z63.natAbs ≤ 3 by rw [hz63]; exact len1 (by decide) (by decide))
  clear hz63
  obtain ⟨z64, hz64⟩ : ∃ z : Int, z = (4 : Int) := ⟨_, rfl⟩
  have Hz64 := Lib.hid hz64
  have LZz64 := Lib.hid (show lenB z64.natAbs ≤ 3 by rw [hz64]; exact len1 (by decide) (by decide))
  clear hz64
  go_enter Tryz.func24, Tryz.ntmps24
  go_wp2_with fail
  have CT := Lib.hid (ofZ 1 z1 (Hz1.out.symm) w (by decide) (by decide))
  with_reducible refine CT.out.mono ?_
  rintro e w2 ⟨x3, rfl, hN4, hb⟩
  have N4 := Lib.hid hN4
  clear hN4
  clear CT
  have KG := Lib.hid (KG.out.trans (hb.mono KG.out.size))
  clear hb
  go_wp2_with fail
  have CT := Lib.hid (ofZ 0 z5 (Hz5.out.symm) w2 (by decide) (by decide))
  with_reducible refine CT.out.mono ?_
  rintro e w6 ⟨x7, rfl, hN8, hb⟩
  have N8 := Lib.hid hN8
  clear hN8
  clear CT
  have N4 := Lib.hid (N4.out.below hb)
  have KG := Lib.hid (KG.out.trans (hb.mono KG.out.size))
  clear hb
  go_wp2_with fail
  have CT := Lib.hid (qmake0 N4.out.k (N4.out.k.len LZz1.out (by decide)) N8.out.k (N8.out.k.len LZz5.out (by decide)) (by rw [Hz5.out]))
  with_reducible refine CT.out.mono ?_
  rintro e w9 ⟨rfl, hb⟩
  clear CT
  clear N4
  clear N8
  have KG := Lib.hid (KG.out.trans (hb.mono KG.out.size))
  clear hb
  go_upto_region 2 with (fail)
  obtain ⟨v11, hV⟩ : ∃ V, V = w9.alloc (.cells #[.bool false, .slice none 0 0, .bool false, .slice none 0 0] 26) := ⟨_, rfl⟩
  have hbV : Below w9.heap.size w9 v11 := by rw [hV]; exact ((Below.refl _ _).alloc (Nat.le_refl _) _)
  have BX10 := Lib.hid (show Bxs v11 (w9.heap.size) 26 [.bool false, .slice none 0 0, .bool false, .slice none 0 0] by have h := Bxs.new (w9) 26 [.bool false, .slice none 0 0, .bool false, .slice none 0 0]; rw [hV]; exact h)
  rw [show w9.alloc (.cells #[.bool false, .slice none 0 0, .bool false, .slice none 0 0] 26) = v11 from hV.symm]
  have KG := Lib.hid (KG.out.trans (hbV.mono KG.out.size))
  clear hV hbV
  clear BX10
  go_wp2_with fail
  have CT := Lib.hid (ofQ 1 2 v11 (by decide) (by decide) (by decide) (by decide) (by decide))
  rw [show ((1 : Int) : Rat) / ((2 : Int) : Rat) = q12 from Hq12.out.symm] at CT
  with_reducible refine CT.out.mono ?_
  rintro e w13 ⟨x14, rfl, hN15, hb⟩
  have N15 := Lib.hid hN15
  clear hN15
  clear CT
  have KG := Lib.hid (KG.out.trans (hb.mono KG.out.size))
  clear hb
  go_wp2_with fail
  have CT := Lib.hid (ofQ (-2) 1 w13 (by decide) (by decide) (by decide) (by decide) (by decide))
  rw [show ((-2 : Int) : Rat) / ((1 : Int) : Rat) = q16 from Hq16.out.symm] at CT
  with_reducible refine CT.out.mono ?_
  rintro e w17 ⟨x18, rfl, hN19, hb⟩
  have N19 := Lib.hid hN19
  clear hN19
  clear CT
  have N15 := Lib.hid (N15.out.below hb)
  have KG := Lib.hid (KG.out.trans (hb.mono KG.out.size))
  clear hb
  go_wp2_with fail
  have CT := Lib.hid (qdiv (N15.out).k (((N15.out).k).len LQq12.out (by decide : _ ≤ 900000)) (N19.out).k (((N19.out).k).len LQq16.out (by decide : _ ≤ 900000)) (by rw [Hq16.out]; decide +kernel))
  rw [show q12 / q16 = q20 from Hq20.out.symm] at CT
  with_reducible refine CT.out.mono ?_
  rintro e w21 ⟨x22, rfl, hN23, hb⟩
  have N23 := Lib.hid hN23
  clear hN23
  clear CT
  clear N15
  clear N19
  have KG := Lib.hid (KG.out.trans (hb.mono KG.out.size))
  clear hb
  go_upto_region 3 with (fail)
  obtain ⟨v25, hV⟩ : ∃ V, V = w21.alloc (.cells #[.bool x22.t.s, .slice x22.t.a x22.t.n x22.t.c, .bool x22.l.s, .slice x22.l.a x22.l.n x22.l.c] 26) := ⟨_, rfl⟩
  have hbV : Below w21.heap.size w21 v25 := by rw [hV]; exact ((Below.refl _ _).alloc (Nat.le_refl _) _)
  have BX24 := Lib.hid (show Bxs v25 (w21.heap.size) 26 [.bool x22.t.s, .slice x22.t.a x22.t.n x22.t.c, .bool x22.l.s, .slice x22.l.a x22.l.n x22.l.c] by have h := Bxs.new (w21) 26 [.bool x22.t.s, .slice x22.t.a x22.t.n x22.t.c, .bool x22.l.s, .slice x22.l.a x22.l.n x22.l.c]; rw [hV]; exact h)
  rw [show w21.alloc (.cells #[.bool x22.t.s, .slice x22.t.a x22.t.n x22.t.c, .bool x22.l.s, .slice x22.l.a x22.l.n x22.l.c] 26) = v25 from hV.symm]
  have N23 := Lib.hid (N23.out.below hbV)
  have KG := Lib.hid (KG.out.trans (hbV.mono KG.out.size))
  clear hV hbV
  go_wp2_with fail
  have CT := Lib.hid (ofQ 1 1 v25 (by decide) (by decide) (by decide) (by decide) (by decide))
  rw [show ((1 : Int) : Rat) / ((1 : Int) : Rat) = q26 from Hq26.out.symm] at CT
  with_reducible refine CT.out.mono ?_
  rintro e w27 ⟨x28, rfl, hN29, hb⟩
  have N29 := Lib.hid hN29
  clear hN29
  clear CT
  have N23 := Lib.hid (N23.out.below hb)
  have BX24 := Lib.hid (BX24.out.below hb BX24.out.lt)
  have KG := Lib.hid (KG.out.trans (hb.mono KG.out.size))
  clear hb
  go_wp2_with fail
  have CT := Lib.hid (ofQ 0 1 w27 (by decide) (by decide) (by decide) (by decide) (by decide))
  rw [show ((0 : Int) : Rat) / ((1 : Int) : Rat) = q30 from Hq30.out.symm] at CT
  with_reducible refine CT.out.mono ?_
  rintro e w31 ⟨x32, rfl, hN33, hb⟩
  have N33 := Lib.hid hN33
  clear hN33
  clear CT
  have N23 := Lib.hid (N23.out.below hb)
  have N29 := Lib.hid (N29.out.below hb)
  have BX24 := Lib.hid (BX24.out.below hb BX24.out.lt)
  have KG := Lib.hid (KG.out.trans (hb.mono KG.out.size))
  clear hb
  go_wp2_with fail
  have CT := Lib.hid (qdiv0 (N29.out).k (((N29.out).k).len LQq26.out (by decide : _ ≤ 900000)) (N33.out).k (((N33.out).k).len LQq30.out (by decide : _ ≤ 900000)) (by rw [Hq30.out]; decide +kernel))
  with_reducible refine CT.out.mono ?_
  rintro e w34 ⟨x35, rfl, hb⟩
  clear CT
  have N23 := Lib.hid (N23.out.below hb)
  clear N29
  clear N33
  have BX24 := Lib.hid (BX24.out.below hb BX24.out.lt)
  have KG := Lib.hid (KG.out.trans (hb.mono KG.out.size))
  clear hb
  go_upto_region 4 with (fail)
  obtain ⟨v37, hV⟩ : ∃ V, V = w34.alloc (.cells #[.bool x35.t.s, .slice x35.t.a x35.t.n x35.t.c, .bool x35.l.s, .slice x35.l.a x35.l.n x35.l.c] 26) := ⟨_, rfl⟩
  have hbV : Below w34.heap.size w34 v37 := by rw [hV]; exact ((Below.refl _ _).alloc (Nat.le_refl _) _)
  have BX36 := Lib.hid (show Bxs v37 (w34.heap.size) 26 [.bool x35.t.s, .slice x35.t.a x35.t.n x35.t.c, .bool x35.l.s, .slice x35.l.a x35.l.n x35.l.c] by have h := Bxs.new (w34) 26 [.bool x35.t.s, .slice x35.t.a x35.t.n x35.t.c, .bool x35.l.s, .slice x35.l.a x35.l.n x35.l.c]; rw [hV]; exact h)
  rw [show w34.alloc (.cells #[.bool x35.t.s, .slice x35.t.a x35.t.n x35.t.c, .bool x35.l.s, .slice x35.l.a x35.l.n x35.l.c] 26) = v37 from hV.symm]
  have N23 := Lib.hid (N23.out.below hbV)
  have BX24 := Lib.hid (BX24.out.below hbV BX24.out.lt)
  have KG := Lib.hid (KG.out.trans (hbV.mono KG.out.size))
  clear hV hbV
  clear BX36
  go_wp2_with fail
  have CT := Lib.hid (parse10 v37)
  with_reducible refine CT.out.mono ?_
  rintro e w38 ⟨rfl, hb⟩
  clear CT
  have N23 := Lib.hid (N23.out.below hb)
  have BX24 := Lib.hid (BX24.out.below hb BX24.out.lt)
  have KG := Lib.hid (KG.out.trans (hb.mono KG.out.size))
  clear hb
  go_upto_region 5 with (fail)
  obtain ⟨v40, hV⟩ : ∃ V, V = w38.alloc (.cells #[.bool false, .slice none 0 0, .bool false, .slice none 0 0] 26) := ⟨_, rfl⟩
  have hbV : Below w38.heap.size w38 v40 := by rw [hV]; exact ((Below.refl _ _).alloc (Nat.le_refl _) _)
  have BX39 := Lib.hid (show Bxs v40 (w38.heap.size) 26 [.bool false, .slice none 0 0, .bool false, .slice none 0 0] by have h := Bxs.new (w38) 26 [.bool false, .slice none 0 0, .bool false, .slice none 0 0]; rw [hV]; exact h)
  rw [show w38.alloc (.cells #[.bool false, .slice none 0 0, .bool false, .slice none 0 0] 26) = v40 from hV.symm]
  have N23 := Lib.hid (N23.out.below hbV)
  have BX24 := Lib.hid (BX24.out.below hbV BX24.out.lt)
  have KG := Lib.hid (KG.out.trans (hbV.mono KG.out.size))
  clear hV hbV
  clear BX39
  go_wp2_with fail
  have CT := Lib.hid (parse12 v40)
  with_reducible refine CT.out.mono ?_
  rintro e w41 ⟨rfl, hb⟩
  clear CT
  have N23 := Lib.hid (N23.out.below hb)
  have BX24 := Lib.hid (BX24.out.below hb BX24.out.lt)
  have KG := Lib.hid (KG.out.trans (hb.mono KG.out.size))
  clear hb
  go_upto_region 6 with (fail)
  obtain ⟨v43, hV⟩ : ∃ V, V = w41.alloc (.cells #[.bool false, .slice none 0 0, .bool false, .slice none 0 0] 26) := ⟨_, rfl⟩
  have hbV : Below w41.heap.size w41 v43 := by rw [hV]; exact ((Below.refl _ _).alloc (Nat.le_refl _) _)
  have BX42 := Lib.hid (show Bxs v43 (w41.heap.size) 26 [.bool false, .slice none 0 0, .bool false, .slice none 0 0] by have h := Bxs.new (w41) 26 [.bool false, .slice none 0 0, .bool false, .slice none 0 0]; rw [hV]; exact h)
  rw [show w41.alloc (.cells #[.bool false, .slice none 0 0, .bool false, .slice none 0 0] 26) = v43 from hV.symm]
  have N23 := Lib.hid (N23.out.below hbV)
  have BX24 := Lib.hid (BX24.out.below hbV BX24.out.lt)
  have KG := Lib.hid (KG.out.trans (hbV.mono KG.out.size))
  clear hV hbV
  clear BX42
  go_wp2_with fail
  have CT := Lib.hid (parse64 v43)
  rw [show ((6 : Int) : Rat) / ((4 : Int) : Rat) = q44 from Hq44.out.symm] at CT
  with_reducible refine CT.out.mono ?_
  rintro e w45 ⟨x46, rfl, hN47, hb⟩
  have N47 := Lib.hid hN47
  clear hN47
  clear CT
  have N23 := Lib.hid (N23.out.below hb)
  have BX24 := Lib.hid (BX24.out.below hb BX24.out.lt)
  have KG := Lib.hid (KG.out.trans (hb.mono KG.out.size))
  clear hb
  go_upto_region 7 with (fail)
  obtain ⟨v49, hV⟩ : ∃ V, V = w45.alloc (.cells #[.bool x46.t.s, .slice x46.t.a x46.t.n x46.t.c, .bool x46.l.s, .slice x46.l.a x46.l.n x46.l.c] 26) := ⟨_, rfl⟩
  have hbV : Below w45.heap.size w45 v49 := by rw [hV]; exact ((Below.refl _ _).alloc (Nat.le_refl _) _)
  have BX48 := Lib.hid (show Bxs v49 (w45.heap.size) 26 [.bool x46.t.s, .slice x46.t.a x46.t.n x46.t.c, .bool x46.l.s, .slice x46.l.a x46.l.n x46.l.c] by have h := Bxs.new (w45) 26 [.bool x46.t.s, .slice x46.t.a x46.t.n x46.t.c, .bool x46.l.s, .slice x46.l.a x46.l.n x46.l.c]; rw [hV]; exact h)
  rw [show w45.alloc (.cells #[.bool x46.t.s, .slice x46.t.a x46.t.n x46.t.c, .bool x46.l.s, .slice x46.l.a x46.l.n x46.l.c] 26) = v49 from hV.symm]
  have N23 := Lib.hid (N23.out.below hbV)
  have N47 := Lib.hid (N47.out.below hbV)
  have BX24 := Lib.hid (BX24.out.below hbV BX24.out.lt)
  have KG := Lib.hid (KG.out.trans (hbV.mono KG.out.size))
  clear hV hbV
  go_wp2_with fail
  have CT := Lib.hid (ofQ 6 (-4) v49 (by decide) (by decide) (by decide) (by decide) (by decide))
  rw [show ((6 : Int) : Rat) / ((-4 : Int) : Rat) = q50 from Hq50.out.symm] at CT
  with_reducible refine CT.out.mono ?_
  rintro e w51 ⟨x52, rfl, hN53, hb⟩
  have N53 := Lib.hid hN53
  clear hN53
  clear CT
  have N23 := Lib.hid (N23.out.below hb)
  have N47 := Lib.hid (N47.out.below hb)
  have BX24 := Lib.hid (BX24.out.below hb BX24.out.lt)
  have BX48 := Lib.hid (BX48.out.below hb BX48.out.lt)
  have KG := Lib.hid (KG.out.trans (hb.mono KG.out.size))
  clear hb
  go_upto_region 8 with (fail)
  obtain ⟨v55, hV⟩ : ∃ V, V = w51.alloc (.cells #[.bool x52.t.s, .slice x52.t.a x52.t.n x52.t.c, .bool x52.l.s, .slice x52.l.a x52.l.n x52.l.c] 26) := ⟨_, rfl⟩
  have hbV : Below w51.heap.size w51 v55 := by rw [hV]; exact ((Below.refl _ _).alloc (Nat.le_refl _) _)
  have BX54 := Lib.hid (show Bxs v55 (w51.heap.size) 26 [.bool x52.t.s, .slice x52.t.a x52.t.n x52.t.c, .bool x52.l.s, .slice x52.l.a x52.l.n x52.l.c] by have h := Bxs.new (w51) 26 [.bool x52.t.s, .slice x52.t.a x52.t.n x52.t.c, .bool x52.l.s, .slice x52.l.a x52.l.n x52.l.c]; rw [hV]; exact h)
  rw [show w51.alloc (.cells #[.bool x52.t.s, .slice x52.t.a x52.t.n x52.t.c, .bool x52.l.s, .slice x52.l.a x52.l.n x52.l.c] 26) = v55 from hV.symm]
  have N23 := Lib.hid (N23.out.below hbV)
  have N47 := Lib.hid (N47.out.below hbV)
  have N53 := Lib.hid (N53.out.below hbV)
  have BX24 := Lib.hid (BX24.out.below hbV BX24.out.lt)
  have BX48 := Lib.hid (BX48.out.below hbV BX48.out.lt)
  have KG := Lib.hid (KG.out.trans (hbV.mono KG.out.size))
  clear hV hbV
  have Hq0 := Hq50.out
  have hnum : q50.num = -3 := by rw [Hq0]; decide +kernel
  have hden : (q50.den : Int) = 2 := by rw [Hq0]; decide +kernel
  obtain ⟨hn1, b1, o1, ha1⟩ := kn_one N53.out.k.t (by rw [hnum]; decide) (by rw [hnum]; decide)
  obtain ⟨hn2, b2, o2, ha2⟩ := kn_one N53.out.k.l (by rw [hden]; decide) (by rw [hden]; decide)
  have hs1 : x52.t.s = true := by rw [N53.out.k.t.s, hnum]; rfl
  have BX54 := Lib.hid (show Bxs v55 (w51.heap.size) 26 [.bool true, .slice (some ⟨b1, o1, none⟩) 1 x52.t.c, .bool x52.l.s, .slice (some ⟨b2, o2, none⟩) 1 x52.l.c] by have h := BX54.out; rw [hs1, hn1, hn2, ha1, ha2] at h; exact h)
  have HC1 := Lib.hid (fun (w' : World) (hb' : Below v55.heap.size v55 w') => kn_cell (m := 3) (N53.out.below hb').k.t (by rw [hnum]; decide) (by rw [hnum]; decide) (by rw [hnum]; rfl) ha1)
  have HC2 := Lib.hid (fun (w' : World) (hb' : Below v55.heap.size v55 w') => kn_cell (m := 2) (N53.out.below hb').k.l (by rw [hden]; decide) (by rw [hden]; decide) (by rw [hden]; rfl) ha2)
  clear Hq0 hnum hden hn1 hn2 ha1 ha2 hs1
  go_upto_region 8 with (fail)
  refine Go.FreshS.wp_region_fresh 97 [] (Go.FreshS.spOf [(59, Go.FreshS.Sp.made (fun x : FV => x.v) (fun x w' => DF w' v55.heap.size x q56) FV.blk), (60, Go.FreshS.Sp.know (.bool true)), (64, Go.FreshS.Sp.made (fun x : FV => x.v) (fun x w' => DF w' v55.heap.size x q57) FV.blk), (65, Go.FreshS.Sp.know (.bool true)), (68, Go.FreshS.Sp.made (fun x : FV => x.v) (fun x w' => DF w' v55.heap.size x q12) FV.blk), (69, Go.FreshS.Sp.made (fun x : FV => x.v) (fun x w' => DF w' v55.heap.size x q58) FV.blk), (70, Go.FreshS.Sp.made (fun x : FV => x.v) (fun x w' => DF w' v55.heap.size x q59) FV.blk), (71, Go.FreshS.Sp.made (fun x : FV => x.v) (fun x w' => DF w' v55.heap.size x q60) FV.blk), (72, Go.FreshS.Sp.know (.bool true)), (75, Go.FreshS.Sp.made (fun x : FV => x.v) (fun x w' => DF w' v55.heap.size x q61) FV.blk), (76, Go.FreshS.Sp.know (.string ⟨[45, 49, 47, 50].toArray⟩)), (80, Go.FreshS.Sp.made (fun x : FV => x.v) (fun x w' => DF w' v55.heap.size x q62) FV.blk), (81, Go.FreshS.Sp.know (.string ⟨[51].toArray⟩)), (85, Go.FreshS.Sp.made (fun x : NV => x.v) (fun x w' => DN w' v55.heap.size x z63) NV.blk), (86, Go.FreshS.Sp.made (fun x : NV => x.v) (fun x w' => DN w' v55.heap.size x z64) NV.blk), (88, Go.FreshS.Sp.know (.bool false)), (92, Go.FreshS.Sp.made (fun x : NV => x.v) (fun x w' => DN w' v55.heap.size x z63) NV.blk), (94, Go.FreshS.Sp.know (.bool false))])
    (fun w' => Below v55.heap.size v55 w') (by kernel_rfl) ((congrArg (fun o => Region.lexTailB .any o 97) (show _ = alOps by kernel_rfl)).trans alChk) (by kernel_rfl)
    (Go.FreshS.spOf_cons (Go.FreshS.Sp.made_keeps _ (fun _ _ _ h _ hk => h.kept hk) (Go.FreshS.notTaken (by kernel_rfl))) (Go.FreshS.spOf_cons (Go.FreshS.Sp.know_keeps _ _) (Go.FreshS.spOf_cons (Go.FreshS.Sp.made_keeps _ (fun _ _ _ h _ hk => h.kept hk) (Go.FreshS.notTaken (by kernel_rfl))) (Go.FreshS.spOf_cons (Go.FreshS.Sp.know_keeps _ _) (Go.FreshS.spOf_cons (Go.FreshS.Sp.made_keeps _ (fun _ _ _ h _ hk => h.kept hk) (Go.FreshS.notTaken (by kernel_rfl))) (Go.FreshS.spOf_cons (Go.FreshS.Sp.made_keeps _ (fun _ _ _ h _ hk => h.kept hk) (Go.FreshS.notTaken (by kernel_rfl))) (Go.FreshS.spOf_cons (Go.FreshS.Sp.made_keeps _ (fun _ _ _ h _ hk => h.kept hk) (Go.FreshS.notTaken (by kernel_rfl))) (Go.FreshS.spOf_cons (Go.FreshS.Sp.made_keeps _ (fun _ _ _ h _ hk => h.kept hk) (Go.FreshS.notTaken (by kernel_rfl))) (Go.FreshS.spOf_cons (Go.FreshS.Sp.know_keeps _ _) (Go.FreshS.spOf_cons (Go.FreshS.Sp.made_keeps _ (fun _ _ _ h _ hk => h.kept hk) (Go.FreshS.notTaken (by kernel_rfl))) (Go.FreshS.spOf_cons (Go.FreshS.Sp.know_keeps _ _) (Go.FreshS.spOf_cons (Go.FreshS.Sp.made_keeps _ (fun _ _ _ h _ hk => h.kept hk) (Go.FreshS.notTaken (by kernel_rfl))) (Go.FreshS.spOf_cons (Go.FreshS.Sp.know_keeps _ _) (Go.FreshS.spOf_cons (Go.FreshS.Sp.made_keeps _ (fun _ _ _ h _ hk => h.kept hk) (Go.FreshS.notTaken (by kernel_rfl))) (Go.FreshS.spOf_cons (Go.FreshS.Sp.made_keeps _ (fun _ _ _ h _ hk => h.kept hk) (Go.FreshS.notTaken (by kernel_rfl))) (Go.FreshS.spOf_cons (Go.FreshS.Sp.know_keeps _ _) (Go.FreshS.spOf_cons (Go.FreshS.Sp.made_keeps _ (fun _ _ _ h _ hk => h.kept hk) (Go.FreshS.notTaken (by kernel_rfl))) (Go.FreshS.spOf_cons (Go.FreshS.Sp.know_keeps _ _) (Go.FreshS.spOf_nil))))))))))))))))))) (fun _ _ h hb => h.trans (hb.mono h.size)) ((Below.refl _ _).drew) ?_
  simp only [List.append_eq, List.cons_append, List.nil_append, List.take_succ_cons, List.take_zero, List.drop_succ_cons, List.drop_zero]
  refine Go.FreshS.wpF_reads rfl rfl rfl ?_ (fun w' hw' => ?_) ?_
  rotate_left
  · have hb' := hw'.world
    skip
    clear hw'
    go_simp
    try rfl
  conv => arg 10; simp only [Act.put, List.setIfInBounds_toArray, List.set_cons_succ, List.set_cons_zero]
  refine Go.FreshS.wpF_reads rfl rfl rfl ?_ (fun w' hw' => ?_) ?_
  rotate_left
  · have hb' := hw'.world
    skip
    clear hw'
    go_simp
    try rfl
  conv => arg 10; simp only [Act.put, List.setIfInBounds_toArray, List.set_cons_succ, List.set_cons_zero]
  refine Go.FreshS.wpF_reads rfl rfl rfl ?_ (fun w' hw' => ?_) ?_
  rotate_left
  · have hb' := hw'.world
    skip
    clear hw'
    go_simp
    try rfl
  conv => arg 10; simp only [Act.put, List.setIfInBounds_toArray, List.set_cons_succ, List.set_cons_zero]
  refine Go.FreshS.wpF_readsG (by rfl) rfl rfl ?_ (fun w' hw' => ?_) ?_
  rotate_left
  · have hb' := hw'.world
    skip
    clear hw'
    go_simp
    try rfl
  conv => arg 10; simp only [Act.put, List.setIfInBounds_toArray, List.set_cons_succ, List.set_cons_zero]
  refine Go.FreshS.wpF_readsG (by rfl) rfl rfl ?_ (fun w' hw' => ?_) ?_
  rotate_left
  · have hb' := hw'.world
    skip
    clear hw'
    go_simp
    try rfl
  conv => arg 10; simp only [Act.put, List.setIfInBounds_toArray, List.set_cons_succ, List.set_cons_zero]
  refine Go.FreshS.wpF_reads rfl rfl rfl ?_ (fun w' hw' => ?_) ?_
  rotate_left
  · have hb' := hw'.world
    skip
    clear hw'
    go_simp
    try rfl
  conv => arg 10; simp only [Act.put, List.setIfInBounds_toArray, List.set_cons_succ, List.set_cons_zero]
  refine Go.FreshS.wpF_reads rfl rfl rfl ?_ (fun w' hw' => ?_) ?_
  rotate_left
  · have hb' := hw'.world
    skip
    clear hw'
    go_simp
    try rfl
  conv => arg 10; simp only [Act.put, List.setIfInBounds_toArray, List.set_cons_succ, List.set_cons_zero]
  refine Go.FreshS.wpF_readsG (by rfl) rfl rfl ?_ (fun w' hw' => ?_) ?_
  rotate_left
  · have hb' := hw'.world
    skip
    clear hw'
    go_simp
    try rfl
  conv => arg 10; simp only [Act.put, List.setIfInBounds_toArray, List.set_cons_succ, List.set_cons_zero]
  refine Go.FreshS.wpF_readsG (by rfl) rfl rfl ?_ (fun w' hw' => ?_) ?_
  rotate_left
  · have hb' := hw'.world
    skip
    clear hw'
    go_simp
    try rfl
  conv => arg 10; simp only [Act.put, List.setIfInBounds_toArray, List.set_cons_succ, List.set_cons_zero]
  refine Go.FreshS.wpF_reads rfl rfl rfl ?_ (fun w' hw' => ?_) ?_
  rotate_left
  · have hb' := hw'.world
    skip
    clear hw'
    go_simp
    try rfl
  conv => arg 10; simp only [Act.put, List.setIfInBounds_toArray, List.set_cons_succ, List.set_cons_zero]
  refine Go.FreshS.wpF_reads rfl rfl rfl ?_ (fun w' hw' => ?_) ?_
  rotate_left
  · have hb' := hw'.world
    skip
    clear hw'
    go_simp
    try rfl
  conv => arg 10; simp only [Act.put, List.setIfInBounds_toArray, List.set_cons_succ, List.set_cons_zero]
  refine Go.FreshS.wpF_readsG (by rfl) rfl rfl ?_ (fun w' hw' => ?_) ?_
  rotate_left
  · have hb' := hw'.world
    skip
    clear hw'
    go_simp
    try rfl
  conv => arg 10; simp only [Act.put, List.setIfInBounds_toArray, List.set_cons_succ, List.set_cons_zero]
  refine Go.FreshS.wpF_readsG (by rfl) rfl rfl ?_ (fun w' hw' => ?_) ?_
  rotate_left
  · have hb' := hw'.world
    skip
    clear hw'
    go_simp
    try rfl
  conv => arg 10; simp only [Act.put, List.setIfInBounds_toArray, List.set_cons_succ, List.set_cons_zero]
  refine Go.FreshS.wpF_reads rfl rfl rfl ?_ (fun w' hw' => ?_) ?_
  rotate_left
  · have hb' := hw'.world
    skip
    clear hw'
    go_simp
    try rfl
  conv => arg 10; simp only [Act.put, List.setIfInBounds_toArray, List.set_cons_succ, List.set_cons_zero]
  refine Go.FreshS.wpF_reads rfl rfl rfl ?_ (fun w' hw' => ?_) ?_
  rotate_left
  · have hb' := hw'.world
    skip
    clear hw'
    go_simp
    try rfl
  conv => arg 10; simp only [Act.put, List.setIfInBounds_toArray, List.set_cons_succ, List.set_cons_zero]
  refine Go.FreshS.wpF_readsG (by rfl) rfl rfl ?_ (fun w' hw' => ?_) ?_
  rotate_left
  · have hb' := hw'.world
    skip
    clear hw'
    go_simp
    try rfl
  conv => arg 10; simp only [Act.put, List.setIfInBounds_toArray, List.set_cons_succ, List.set_cons_zero]
  refine Go.FreshS.wpF_readsG (by rfl) rfl rfl ?_ (fun w' hw' => ?_) ?_
  rotate_left
  · have hb' := hw'.world
    skip
    clear hw'
    go_simp
    try rfl
  conv => arg 10; simp only [Act.put, List.setIfInBounds_toArray, List.set_cons_succ, List.set_cons_zero]
  refine Go.FreshS.wpF_reads rfl rfl rfl ?_ (fun w' hw' => ?_) ?_
  rotate_left
  · have hb' := hw'.world
    skip
    clear hw'
    go_simp
    try rfl
  conv => arg 10; simp only [Act.put, List.setIfInBounds_toArray, List.set_cons_succ, List.set_cons_zero]
  refine Go.FreshS.wpF_reads rfl rfl rfl ?_ (fun w' hw' => ?_) ?_
  rotate_left
  · have hb' := hw'.world
    skip
    clear hw'
    go_simp
    try rfl
  conv => arg 10; simp only [Act.put, List.setIfInBounds_toArray, List.set_cons_succ, List.set_cons_zero]
  refine Go.FreshS.wpF_readsG (by rfl) rfl rfl ?_ (fun w' hw' => ?_) ?_
  rotate_left
  · have hb' := hw'.world
    skip
    clear hw'
    go_simp
    try rfl
  conv => arg 10; simp only [Act.put, List.setIfInBounds_toArray, List.set_cons_succ, List.set_cons_zero]
  refine Go.FreshS.wpF_readsG (by rfl) rfl rfl ?_ (fun w' hw' => ?_) ?_
  rotate_left
  · have hb' := hw'.world
    skip
    clear hw'
    go_simp
    try rfl
  conv => arg 10; simp only [Act.put, List.setIfInBounds_toArray, List.set_cons_succ, List.set_cons_zero]
  refine Go.FreshS.wpF_reads rfl rfl rfl ?_ (fun w' hw' => ?_) ?_
  rotate_left
  · have hb' := hw'.world
    skip
    clear hw'
    go_simp
    try rfl
  conv => arg 10; simp only [Act.put, List.setIfInBounds_toArray, List.set_cons_succ, List.set_cons_zero]
  refine Go.FreshS.wpF_reads rfl rfl rfl ?_ (fun w' hw' => ?_) ?_
  rotate_left
  · have hb' := hw'.world
    skip
    clear hw'
    go_simp
    try rfl
  conv => arg 10; simp only [Act.put, List.setIfInBounds_toArray, List.set_cons_succ, List.set_cons_zero]
  refine Go.FreshS.wpF_readsG (by rfl) rfl rfl ?_ (fun w' hw' => ?_) ?_
  rotate_left
  · have hb' := hw'.world
    skip
    clear hw'
    go_simp
    try rfl
  conv => arg 10; simp only [Act.put, List.setIfInBounds_toArray, List.set_cons_succ, List.set_cons_zero]
  refine Go.FreshS.wpF_readsG (by rfl) rfl rfl ?_ (fun w' hw' => ?_) ?_
  rotate_left
  · have hb' := hw'.world
    skip
    clear hw'
    go_simp
    try rfl
  conv => arg 10; simp only [Act.put, List.setIfInBounds_toArray, List.set_cons_succ, List.set_cons_zero]
  refine Go.FreshS.wpF_readsG (by rfl) rfl rfl ?_ (fun w' hw' => ?_) ?_
  rotate_left
  · have hb' := hw'.world
    have hs0 := (BX54.out.below hb' BX54.out.lt).cell (i := 0) rfl
    have hs1 := (BX54.out.below hb' BX54.out.lt).cell (i := 1) rfl
    have hs2 := (BX54.out.below hb' BX54.out.lt).cell (i := 2) rfl
    have hs3 := (BX54.out.below hb' BX54.out.lt).cell (i := 3) rfl
    have hsf := (BX54.out.below hb' BX54.out.lt).fz
    have hsl := (BX54.out.below hb' BX54.out.lt).lt
    clear hw'
    go_simp
    try rfl
  conv => arg 10; simp only [Act.put, List.setIfInBounds_toArray, List.set_cons_succ, List.set_cons_zero]
  refine Go.FreshS.wpF_reads rfl rfl rfl ?_ (fun w' hw' => ?_) ?_
  rotate_left
  · have hb' := hw'.world
    skip
    clear hw'
    go_simp
    try rfl
  conv => arg 10; simp only [Act.put, List.setIfInBounds_toArray, List.set_cons_succ, List.set_cons_zero]
  refine Go.FreshS.wpF_reads rfl rfl rfl ?_ (fun w' hw' => ?_) ?_
  rotate_left
  · have hb' := hw'.world
    skip
    clear hw'
    go_simp
    try rfl
  conv => arg 10; simp only [Act.put, List.setIfInBounds_toArray, List.set_cons_succ, List.set_cons_zero]
  refine Go.FreshS.wpF_readsG (by rfl) rfl rfl ?_ (fun w' hw' => ?_) ?_
  rotate_left
  · have hb' := hw'.world
    skip
    clear hw'
    go_simp
    try rfl
  conv => arg 10; simp only [Act.put, List.setIfInBounds_toArray, List.set_cons_succ, List.set_cons_zero]
  refine Go.FreshS.wpF_readsG (by rfl) rfl rfl ?_ (fun w' hw' => ?_) ?_
  rotate_left
  · have hb' := hw'.world
    skip
    clear hw'
    go_simp
    try rfl
  conv => arg 10; simp only [Act.put, List.setIfInBounds_toArray, List.set_cons_succ, List.set_cons_zero]
  refine Go.FreshS.wpF_readsG (by rfl) rfl rfl ?_ (fun w' hw' => ?_) ?_
  rotate_left
  · have hb' := hw'.world
    have hs0 := (BX54.out.below hb' BX54.out.lt).cell (i := 0) rfl
    have hs1 := (BX54.out.below hb' BX54.out.lt).cell (i := 1) rfl
    have hs2 := (BX54.out.below hb' BX54.out.lt).cell (i := 2) rfl
    have hs3 := (BX54.out.below hb' BX54.out.lt).cell (i := 3) rfl
    have hsf := (BX54.out.below hb' BX54.out.lt).fz
    have hsl := (BX54.out.below hb' BX54.out.lt).lt
    clear hw'
    go_simp
    try rfl
  conv => arg 10; simp only [Act.put, List.setIfInBounds_toArray, List.set_cons_succ, List.set_cons_zero]
  refine Go.FreshS.wpF_readsG (by rfl) rfl rfl ?_ (fun w' hw' => ?_) ?_
  rotate_left
  · have hb' := hw'.world
    skip
    clear hw'
    go_simp
    try rfl
  conv => arg 10; simp only [Act.put, List.setIfInBounds_toArray, List.set_cons_succ, List.set_cons_zero]
  refine Go.FreshS.wpF_readsG (by rfl) rfl rfl ?_ (fun w' hw' => ?_) ?_
  rotate_left
  · have hb' := hw'.world
    skip
    clear hw'
    go_simp
    try rfl
  conv => arg 10; simp only [Act.put, List.setIfInBounds_toArray, List.set_cons_succ, List.set_cons_zero]
  refine Go.FreshS.wpF_reads rfl rfl rfl ?_ (fun w' hw' => ?_) ?_
  rotate_left
  · have hb' := hw'.world
    skip
    clear hw'
    go_simp
    try rfl
  conv => arg 10; simp only [Act.put, List.setIfInBounds_toArray, List.set_cons_succ, List.set_cons_zero]
  refine Go.FreshS.wpF_reads rfl rfl rfl ?_ (fun w' hw' => ?_) ?_
  rotate_left
  · have hb' := hw'.world
    skip
    clear hw'
    go_simp
    try rfl
  conv => arg 10; simp only [Act.put, List.setIfInBounds_toArray, List.set_cons_succ, List.set_cons_zero]
  refine Go.FreshS.wpF_readsG (by rfl) rfl rfl ?_ (fun w' hw' => ?_) ?_
  rotate_left
  · have hb' := hw'.world
    skip
    clear hw'
    go_simp
    try rfl
  conv => arg 10; simp only [Act.put, List.setIfInBounds_toArray, List.set_cons_succ, List.set_cons_zero]
  refine Go.FreshS.wpF_readsG (by rfl) rfl rfl ?_ (fun w' hw' => ?_) ?_
  rotate_left
  · have hb' := hw'.world
    skip
    clear hw'
    go_simp
    try rfl
  conv => arg 10; simp only [Act.put, List.setIfInBounds_toArray, List.set_cons_succ, List.set_cons_zero]
  refine Go.FreshS.wpF_readsG (by rfl) rfl rfl ?_ (fun w' hw' => ?_) ?_
  rotate_left
  · have hb' := hw'.world
    have hs0 := (BX54.out.below hb' BX54.out.lt).cell (i := 0) rfl
    have hs1 := (BX54.out.below hb' BX54.out.lt).cell (i := 1) rfl
    have hs2 := (BX54.out.below hb' BX54.out.lt).cell (i := 2) rfl
    have hs3 := (BX54.out.below hb' BX54.out.lt).cell (i := 3) rfl
    have hsf := (BX54.out.below hb' BX54.out.lt).fz
    have hsl := (BX54.out.below hb' BX54.out.lt).lt
    clear hw'
    go_simp
    try rfl
  conv => arg 10; simp only [Act.put, List.setIfInBounds_toArray, List.set_cons_succ, List.set_cons_zero]
  refine Go.FreshS.wpF_readsG (by rfl) rfl rfl ?_ (fun w' hw' => ?_) ?_
  rotate_left
  · have hb' := hw'.world
    skip
    clear hw'
    go_simp
    try rfl
  conv => arg 10; simp only [Act.put, List.setIfInBounds_toArray, List.set_cons_succ, List.set_cons_zero]
  refine Go.FreshS.wpF_readsG (by rfl) rfl rfl ?_ (fun w' hw' => ?_) ?_
  rotate_left
  · have hb' := hw'.world
    have hc := HC1.out w' hb'
    clear hw'
    go_simp
    try rfl
  conv => arg 10; simp only [Act.put, List.setIfInBounds_toArray, List.set_cons_succ, List.set_cons_zero]
  refine Go.FreshS.wpF_readsG (by rfl) rfl rfl ?_ (fun w' hw' => ?_) ?_
  rotate_left
  · have hb' := hw'.world
    skip
    clear hw'
    go_simp
    try rfl
  conv => arg 10; simp only [Act.put, List.setIfInBounds_toArray, List.set_cons_succ, List.set_cons_zero]
  refine Go.FreshS.wpF_reads rfl rfl rfl ?_ (fun w' hw' => ?_) ?_
  rotate_left
  · have hb' := hw'.world
    skip
    clear hw'
    go_simp
    try rfl
  conv => arg 10; simp only [Act.put, List.setIfInBounds_toArray, List.set_cons_succ, List.set_cons_zero]
  refine Go.FreshS.wpF_reads rfl rfl rfl ?_ (fun w' hw' => ?_) ?_
  rotate_left
  · have hb' := hw'.world
    skip
    clear hw'
    go_simp
    try rfl
  conv => arg 10; simp only [Act.put, List.setIfInBounds_toArray, List.set_cons_succ, List.set_cons_zero]
  refine Go.FreshS.wpF_readsG (by rfl) rfl rfl ?_ (fun w' hw' => ?_) ?_
  rotate_left
  · have hb' := hw'.world
    skip
    clear hw'
    go_simp
    try rfl
  conv => arg 10; simp only [Act.put, List.setIfInBounds_toArray, List.set_cons_succ, List.set_cons_zero]
  refine Go.FreshS.wpF_readsG (by rfl) rfl rfl ?_ (fun w' hw' => ?_) ?_
  rotate_left
  · have hb' := hw'.world
    skip
    clear hw'
    go_simp
    try rfl
  conv => arg 10; simp only [Act.put, List.setIfInBounds_toArray, List.set_cons_succ, List.set_cons_zero]
  refine Go.FreshS.wpF_readsG (by rfl) rfl rfl ?_ (fun w' hw' => ?_) ?_
  rotate_left
  · have hb' := hw'.world
    have hs0 := (BX54.out.below hb' BX54.out.lt).cell (i := 0) rfl
    have hs1 := (BX54.out.below hb' BX54.out.lt).cell (i := 1) rfl
    have hs2 := (BX54.out.below hb' BX54.out.lt).cell (i := 2) rfl
    have hs3 := (BX54.out.below hb' BX54.out.lt).cell (i := 3) rfl
    have hsf := (BX54.out.below hb' BX54.out.lt).fz
    have hsl := (BX54.out.below hb' BX54.out.lt).lt
    clear hw'
    go_simp
    try rfl
  conv => arg 10; simp only [Act.put, List.setIfInBounds_toArray, List.set_cons_succ, List.set_cons_zero]
  refine Go.FreshS.wpF_readsG (by rfl) rfl rfl ?_ (fun w' hw' => ?_) ?_
  rotate_left
  · have hb' := hw'.world
    skip
    clear hw'
    go_simp
    try rfl
  conv => arg 10; simp only [Act.put, List.setIfInBounds_toArray, List.set_cons_succ, List.set_cons_zero]
  refine Go.FreshS.wpF_readsG (by rfl) rfl rfl ?_ (fun w' hw' => ?_) ?_
  rotate_left
  · have hb' := hw'.world
    skip
    clear hw'
    go_simp
    try rfl
  conv => arg 10; simp only [Act.put, List.setIfInBounds_toArray, List.set_cons_succ, List.set_cons_zero]
  refine Go.FreshS.wpF_reads rfl rfl rfl ?_ (fun w' hw' => ?_) ?_
  rotate_left
  · have hb' := hw'.world
    skip
    clear hw'
    go_simp
    try rfl
  conv => arg 10; simp only [Act.put, List.setIfInBounds_toArray, List.set_cons_succ, List.set_cons_zero]
  refine Go.FreshS.wpF_reads rfl rfl rfl ?_ (fun w' hw' => ?_) ?_
  rotate_left
  · have hb' := hw'.world
    skip
    clear hw'
    go_simp
    try rfl
  conv => arg 10; simp only [Act.put, List.setIfInBounds_toArray, List.set_cons_succ, List.set_cons_zero]
  refine Go.FreshS.wpF_readsG (by rfl) rfl rfl ?_ (fun w' hw' => ?_) ?_
  rotate_left
  · have hb' := hw'.world
    skip
    clear hw'
    go_simp
    try rfl
  conv => arg 10; simp only [Act.put, List.setIfInBounds_toArray, List.set_cons_succ, List.set_cons_zero]
  refine Go.FreshS.wpF_readsG (by rfl) rfl rfl ?_ (fun w' hw' => ?_) ?_
  rotate_left
  · have hb' := hw'.world
    skip
    clear hw'
    go_simp
    try rfl
  conv => arg 10; simp only [Act.put, List.setIfInBounds_toArray, List.set_cons_succ, List.set_cons_zero]
  refine Go.FreshS.wpF_readsG (by rfl) rfl rfl ?_ (fun w' hw' => ?_) ?_
  rotate_left
  · have hb' := hw'.world
    have hs0 := (BX54.out.below hb' BX54.out.lt).cell (i := 0) rfl
    have hs1 := (BX54.out.below hb' BX54.out.lt).cell (i := 1) rfl
    have hs2 := (BX54.out.below hb' BX54.out.lt).cell (i := 2) rfl
    have hs3 := (BX54.out.below hb' BX54.out.lt).cell (i := 3) rfl
    have hsf := (BX54.out.below hb' BX54.out.lt).fz
    have hsl := (BX54.out.below hb' BX54.out.lt).lt
    clear hw'
    go_simp
    try rfl
  conv => arg 10; simp only [Act.put, List.setIfInBounds_toArray, List.set_cons_succ, List.set_cons_zero]
  refine Go.FreshS.wpF_readsG (by rfl) rfl rfl ?_ (fun w' hw' => ?_) ?_
  rotate_left
  · have hb' := hw'.world
    skip
    clear hw'
    go_simp
    try rfl
  conv => arg 10; simp only [Act.put, List.setIfInBounds_toArray, List.set_cons_succ, List.set_cons_zero]
  refine Go.FreshS.wpF_readsG (by rfl) rfl rfl ?_ (fun w' hw' => ?_) ?_
  rotate_left
  · have hb' := hw'.world
    have hc := HC2.out w' hb'
    clear hw'
    go_simp
    try rfl
  conv => arg 10; simp only [Act.put, List.setIfInBounds_toArray, List.set_cons_succ, List.set_cons_zero]
  refine Go.FreshS.wpF_readsG (by rfl) rfl rfl ?_ (fun w' hw' => ?_) ?_
  rotate_left
  · have hb' := hw'.world
    skip
    clear hw'
    go_simp
    try rfl
  conv => arg 10; simp only [Act.put, List.setIfInBounds_toArray, List.set_cons_succ, List.set_cons_zero]
  refine Go.FreshS.wpF_reads rfl rfl rfl ?_ (fun w' hw' => ?_) ?_
  rotate_left
  · have hb' := hw'.world
    skip
    clear hw'
    go_simp
    try rfl
  conv => arg 10; simp only [Act.put, List.setIfInBounds_toArray, List.set_cons_succ, List.set_cons_zero]
  refine Go.FreshS.wpF_reads rfl rfl rfl ?_ (fun w' hw' => ?_) ?_
  rotate_left
  · have hb' := hw'.world
    skip
    clear hw'
    go_simp
    try rfl
  conv => arg 10; simp only [Act.put, List.setIfInBounds_toArray, List.set_cons_succ, List.set_cons_zero]
  refine Go.FreshS.wpF_readsG (by rfl) rfl rfl ?_ (fun w' hw' => ?_) ?_
  rotate_left
  · have hb' := hw'.world
    have hs0 := (BX24.out.below hb' BX24.out.lt).cell (i := 0) rfl
    have hs1 := (BX24.out.below hb' BX24.out.lt).cell (i := 1) rfl
    have hs2 := (BX24.out.below hb' BX24.out.lt).cell (i := 2) rfl
    have hs3 := (BX24.out.below hb' BX24.out.lt).cell (i := 3) rfl
    have hsf := (BX24.out.below hb' BX24.out.lt).fz
    have hsl := (BX24.out.below hb' BX24.out.lt).lt
    clear hw'
    go_simp
    try rfl
  conv => arg 10; simp only [Act.put, List.setIfInBounds_toArray, List.set_cons_succ, List.set_cons_zero]
  refine Go.FreshS.wpF_gspec (by rfl) rfl rfl (fun w' hw' => ?_) ?_
  · have hb' := hw'.world
    refine Go.FreshS.gives_of (Go.FreshS.PM (fun x : FV => x.v) (fun x w' => DF w' v55.heap.size x q56) FV.blk w'.heap.size) ?_ (fun _ _ h => h.post (fun _ _ => FV.inj))
    go_simp
    have CT := ofQ (-1) 4 w' (by decide) (by decide) (by decide) (by decide) (by decide)
    rw [show ((-1 : Int) : Rat) / ((4 : Int) : Rat) = q56 from Hq56.out.symm] at CT
    refine CT.mono ?_
    rintro e w'' ⟨za, rfl, ho, hb⟩
    exact ⟨_, rfl, ⟨za, rfl, ho.mono hb'.size, ho.blks⟩, hb⟩
  rintro _ ⟨y59, rfl⟩
  conv => arg 10; simp only [Act.put, List.setIfInBounds_toArray, List.set_cons_succ, List.set_cons_zero]
  refine Go.FreshS.wpF_gspec (by rfl) rfl rfl (fun w' hw' => ?_) ?_
  · have hb' := hw'.world
    refine Go.FreshS.gives_of (Go.FreshS.PK (.bool true)) ?_ (fun _ _ h => h.post)
    go_simp
    have f59 := Go.FreshS.made_of (val := (fun x : FV => x.v)) (Φ := fun x w' => DF w' v55.heap.size x q56) (fun _ _ => FV.inj) (hw'.fact 59 (by kernel_rfl))
    have CT := qsame ((N23.out.below hb')).k ((((N23.out.below hb')).k).len LQq20.out (by decide : _ ≤ 900000)) (f59).k (((f59).k).len LQq56.out (by decide : _ ≤ 900000)) (by simp only [Hq56.out, Hq50.out, Hq44.out, Hq30.out, Hq26.out, Hq20.out, Hq16.out, Hq12.out, Hz5.out, Hz1.out]; decide +kernel)
    refine CT.mono ?_
    rintro e w'' ⟨rfl, hb⟩
    exact ⟨_, rfl, rfl, hb⟩
  rintro _ rfl
  conv => arg 10; simp only [Act.put, List.setIfInBounds_toArray, List.set_cons_succ, List.set_cons_zero]
  refine Go.FreshS.wpF_reads rfl rfl rfl ?_ (fun w' hw' => ?_) ?_
  rotate_left
  · have hb' := hw'.world
    skip
    clear hw'
    go_simp
    try rfl
  conv => arg 10; simp only [Act.put, List.setIfInBounds_toArray, List.set_cons_succ, List.set_cons_zero]
  refine Go.FreshS.wpF_reads rfl rfl rfl ?_ (fun w' hw' => ?_) ?_
  rotate_left
  · have hb' := hw'.world
    skip
    clear hw'
    go_simp
    try rfl
  conv => arg 10; simp only [Act.put, List.setIfInBounds_toArray, List.set_cons_succ, List.set_cons_zero]
  refine Go.FreshS.wpF_readsG (by rfl) rfl rfl ?_ (fun w' hw' => ?_) ?_
  rotate_left
  · have hb' := hw'.world
    have hs0 := (BX48.out.below hb' BX48.out.lt).cell (i := 0) rfl
    have hs1 := (BX48.out.below hb' BX48.out.lt).cell (i := 1) rfl
    have hs2 := (BX48.out.below hb' BX48.out.lt).cell (i := 2) rfl
    have hs3 := (BX48.out.below hb' BX48.out.lt).cell (i := 3) rfl
    have hsf := (BX48.out.below hb' BX48.out.lt).fz
    have hsl := (BX48.out.below hb' BX48.out.lt).lt
    clear hw'
    go_simp
    try rfl
  conv => arg 10; simp only [Act.put, List.setIfInBounds_toArray, List.set_cons_succ, List.set_cons_zero]
  refine Go.FreshS.wpF_gspec (by rfl) rfl rfl (fun w' hw' => ?_) ?_
  · have hb' := hw'.world
    refine Go.FreshS.gives_of (Go.FreshS.PM (fun x : FV => x.v) (fun x w' => DF w' v55.heap.size x q57) FV.blk w'.heap.size) ?_ (fun _ _ h => h.post (fun _ _ => FV.inj))
    go_simp
    have CT := ofQ 3 2 w' (by decide) (by decide) (by decide) (by decide) (by decide)
    rw [show ((3 : Int) : Rat) / ((2 : Int) : Rat) = q57 from Hq57.out.symm] at CT
    refine CT.mono ?_
    rintro e w'' ⟨za, rfl, ho, hb⟩
    exact ⟨_, rfl, ⟨za, rfl, ho.mono hb'.size, ho.blks⟩, hb⟩
  rintro _ ⟨y64, rfl⟩
  conv => arg 10; simp only [Act.put, List.setIfInBounds_toArray, List.set_cons_succ, List.set_cons_zero]
  refine Go.FreshS.wpF_gspec (by rfl) rfl rfl (fun w' hw' => ?_) ?_
  · have hb' := hw'.world
    refine Go.FreshS.gives_of (Go.FreshS.PK (.bool true)) ?_ (fun _ _ h => h.post)
    go_simp
    have f64 := Go.FreshS.made_of (val := (fun x : FV => x.v)) (Φ := fun x w' => DF w' v55.heap.size x q57) (fun _ _ => FV.inj) (hw'.fact 64 (by kernel_rfl))
    have CT := qsame ((N47.out.below hb')).k ((((N47.out.below hb')).k).len LQq44.out (by decide : _ ≤ 900000)) (f64).k (((f64).k).len LQq57.out (by decide : _ ≤ 900000)) (by simp only [Hq57.out, Hq56.out, Hq50.out, Hq44.out, Hq30.out, Hq26.out, Hq20.out, Hq16.out, Hq12.out, Hz5.out, Hz1.out]; decide +kernel)
    refine CT.mono ?_
    rintro e w'' ⟨rfl, hb⟩
    exact ⟨_, rfl, rfl, hb⟩
  rintro _ rfl
  conv => arg 10; simp only [Act.put, List.setIfInBounds_toArray, List.set_cons_succ, List.set_cons_zero]
  refine Go.FreshS.wpF_reads rfl rfl rfl ?_ (fun w' hw' => ?_) ?_
  rotate_left
  · have hb' := hw'.world
    skip
    clear hw'
    go_simp
    try rfl
  conv => arg 10; simp only [Act.put, List.setIfInBounds_toArray, List.set_cons_succ, List.set_cons_zero]
  refine Go.FreshS.wpF_reads rfl rfl rfl ?_ (fun w' hw' => ?_) ?_
  rotate_left
  · have hb' := hw'.world
    skip
    clear hw'
    go_simp
    try rfl
  conv => arg 10; simp only [Act.put, List.setIfInBounds_toArray, List.set_cons_succ, List.set_cons_zero]
  refine Go.FreshS.wpF_gspec (by rfl) rfl rfl (fun w' hw' => ?_) ?_
  · have hb' := hw'.world
    refine Go.FreshS.gives_of (Go.FreshS.PM (fun x : FV => x.v) (fun x w' => DF w' v55.heap.size x q12) FV.blk w'.heap.size) ?_ (fun _ _ h => h.post (fun _ _ => FV.inj))
    go_simp
    have CT := ofQ 1 2 w' (by decide) (by decide) (by decide) (by decide) (by decide)
    rw [show ((1 : Int) : Rat) / ((2 : Int) : Rat) = q12 from Hq12.out.symm] at CT
    refine CT.mono ?_
    rintro e w'' ⟨za, rfl, ho, hb⟩
    exact ⟨_, rfl, ⟨za, rfl, ho.mono hb'.size, ho.blks⟩, hb⟩
  rintro _ ⟨y68, rfl⟩
  conv => arg 10; simp only [Act.put, List.setIfInBounds_toArray, List.set_cons_succ, List.set_cons_zero]
  refine Go.FreshS.wpF_gspec (by rfl) rfl rfl (fun w' hw' => ?_) ?_
  · have hb' := hw'.world
    refine Go.FreshS.gives_of (Go.FreshS.PM (fun x : FV => x.v) (fun x w' => DF w' v55.heap.size x q58) FV.blk w'.heap.size) ?_ (fun _ _ h => h.post (fun _ _ => FV.inj))
    go_simp
    have CT := ofQ 1 3 w' (by decide) (by decide) (by decide) (by decide) (by decide)
    rw [show ((1 : Int) : Rat) / ((3 : Int) : Rat) = q58 from Hq58.out.symm] at CT
    refine CT.mono ?_
    rintro e w'' ⟨za, rfl, ho, hb⟩
    exact ⟨_, rfl, ⟨za, rfl, ho.mono hb'.size, ho.blks⟩, hb⟩
  rintro _ ⟨y69, rfl⟩
  conv => arg 10; simp only [Act.put, List.setIfInBounds_toArray, List.set_cons_succ, List.set_cons_zero]
  refine Go.FreshS.wpF_gspec (by rfl) rfl rfl (fun w' hw' => ?_) ?_
  · have hb' := hw'.world
    refine Go.FreshS.gives_of (Go.FreshS.PM (fun x : FV => x.v) (fun x w' => DF w' v55.heap.size x q59) FV.blk w'.heap.size) ?_ (fun _ _ h => h.post (fun _ _ => FV.inj))
    go_simp
    have f68 := Go.FreshS.made_of (val := (fun x : FV => x.v)) (Φ := fun x w' => DF w' v55.heap.size x q12) (fun _ _ => FV.inj) (hw'.fact 68 (by kernel_rfl))
    have f69 := Go.FreshS.made_of (val := (fun x : FV => x.v)) (Φ := fun x w' => DF w' v55.heap.size x q58) (fun _ _ => FV.inj) (hw'.fact 69 (by kernel_rfl))
    have CT := qadd (f68).k.any (((f68).k).len LQq12.out (by decide : _ ≤ 900000)) (f69).k.any (((f69).k).len LQq58.out (by decide : _ ≤ 900000))
    rw [show q12 + q58 = q59 from Hq59.out.symm] at CT
    refine CT.mono ?_
    rintro e w'' ⟨za, rfl, ho, hb⟩
    exact ⟨_, rfl, ⟨za, rfl, ho.mono hb'.size, ho.blks⟩, hb⟩
  rintro _ ⟨y70, rfl⟩
  conv => arg 10; simp only [Act.put, List.setIfInBounds_toArray, List.set_cons_succ, List.set_cons_zero]
  refine Go.FreshS.wpF_gspec (by rfl) rfl rfl (fun w' hw' => ?_) ?_
  · have hb' := hw'.world
    refine Go.FreshS.gives_of (Go.FreshS.PM (fun x : FV => x.v) (fun x w' => DF w' v55.heap.size x q60) FV.blk w'.heap.size) ?_ (fun _ _ h => h.post (fun _ _ => FV.inj))
    go_simp
    have CT := ofQ 5 6 w' (by decide) (by decide) (by decide) (by decide) (by decide)
    rw [show ((5 : Int) : Rat) / ((6 : Int) : Rat) = q60 from Hq60.out.symm] at CT
    refine CT.mono ?_
    rintro e w'' ⟨za, rfl, ho, hb⟩
    exact ⟨_, rfl, ⟨za, rfl, ho.mono hb'.size, ho.blks⟩, hb⟩
  rintro _ ⟨y71, rfl⟩
  conv => arg 10; simp only [Act.put, List.setIfInBounds_toArray, List.set_cons_succ, List.set_cons_zero]
  refine Go.FreshS.wpF_gspec (by rfl) rfl rfl (fun w' hw' => ?_) ?_
  · have hb' := hw'.world
    refine Go.FreshS.gives_of (Go.FreshS.PK (.bool true)) ?_ (fun _ _ h => h.post)
    go_simp
    have f70 := Go.FreshS.made_of (val := (fun x : FV => x.v)) (Φ := fun x w' => DF w' v55.heap.size x q59) (fun _ _ => FV.inj) (hw'.fact 70 (by kernel_rfl))
    have f71 := Go.FreshS.made_of (val := (fun x : FV => x.v)) (Φ := fun x w' => DF w' v55.heap.size x q60) (fun _ _ => FV.inj) (hw'.fact 71 (by kernel_rfl))
    have CT := qsame (f70).k (((f70).k).len LQq59.out (by decide : _ ≤ 900000)) (f71).k (((f71).k).len LQq60.out (by decide : _ ≤ 900000)) (by simp only [Hq60.out, Hq59.out, Hq58.out, Hq57.out, Hq56.out, Hq50.out, Hq44.out, Hq30.out, Hq26.out, Hq20.out, Hq16.out, Hq12.out, Hz5.out, Hz1.out]; decide +kernel)
    refine CT.mono ?_
    rintro e w'' ⟨rfl, hb⟩
    exact ⟨_, rfl, rfl, hb⟩
  rintro _ rfl
  conv => arg 10; simp only [Act.put, List.setIfInBounds_toArray, List.set_cons_succ, List.set_cons_zero]
  refine Go.FreshS.wpF_reads rfl rfl rfl ?_ (fun w' hw' => ?_) ?_
  rotate_left
  · have hb' := hw'.world
    skip
    clear hw'
    go_simp
    try rfl
  conv => arg 10; simp only [Act.put, List.setIfInBounds_toArray, List.set_cons_succ, List.set_cons_zero]
  refine Go.FreshS.wpF_reads rfl rfl rfl ?_ (fun w' hw' => ?_) ?_
  rotate_left
  · have hb' := hw'.world
    skip
    clear hw'
    go_simp
    try rfl
  conv => arg 10; simp only [Act.put, List.setIfInBounds_toArray, List.set_cons_succ, List.set_cons_zero]
  refine Go.FreshS.wpF_gspec (by rfl) rfl rfl (fun w' hw' => ?_) ?_
  · have hb' := hw'.world
    refine Go.FreshS.gives_of (Go.FreshS.PM (fun x : FV => x.v) (fun x w' => DF w' v55.heap.size x q61) FV.blk w'.heap.size) ?_ (fun _ _ h => h.post (fun _ _ => FV.inj))
    go_simp
    have CT := ofQ (-1) 2 w' (by decide) (by decide) (by decide) (by decide) (by decide)
    rw [show ((-1 : Int) : Rat) / ((2 : Int) : Rat) = q61 from Hq61.out.symm] at CT
    refine CT.mono ?_
    rintro e w'' ⟨za, rfl, ho, hb⟩
    exact ⟨_, rfl, ⟨za, rfl, ho.mono hb'.size, ho.blks⟩, hb⟩
  rintro _ ⟨y75, rfl⟩
  conv => arg 10; simp only [Act.put, List.setIfInBounds_toArray, List.set_cons_succ, List.set_cons_zero]
  refine Go.FreshS.wpF_gspec (by rfl) rfl rfl (fun w' hw' => ?_) ?_
  · have hb' := hw'.world
    refine Go.FreshS.gives_of (Go.FreshS.PK (.string ⟨[45, 49, 47, 50].toArray⟩)) ?_ (fun _ _ h => h.post)
    go_simp
    have f75 := Go.FreshS.made_of (val := (fun x : FV => x.v)) (Φ := fun x w' => DF w' v55.heap.size x q61) (fun _ _ => FV.inj) (hw'.fact 75 (by kernel_rfl))
    have CT := qtext_two y75 q61 w' (HT.out.on (KG.out.trans (hb'.mono KG.out.size))) (f75).k.any (((f75).k).len LQq61.out (by decide : _ ≤ 100)) (LQq61.out.up (by decide : _ ≤ 101)) (by rw [Hq61.out]; decide +kernel)
    rw [show textQ q61 = [45, 49, 47, 50] from text_a Hq61.out] at CT
    refine CT.mono ?_
    rintro e w'' ⟨rfl, hb⟩
    exact ⟨_, rfl, rfl, hb⟩
  rintro _ rfl
  conv => arg 10; simp only [Act.put, List.setIfInBounds_toArray, List.set_cons_succ, List.set_cons_zero]
  refine Go.FreshS.wpF_readsG (by rfl) rfl rfl ?_ (fun w' hw' => ?_) ?_
  rotate_left
  · have hb' := hw'.world
    skip
    clear hw'
    go_simp
    try rfl
  conv => arg 10; simp only [Act.put, List.setIfInBounds_toArray, List.set_cons_succ, List.set_cons_zero]
  refine Go.FreshS.wpF_reads rfl rfl rfl ?_ (fun w' hw' => ?_) ?_
  rotate_left
  · have hb' := hw'.world
    skip
    clear hw'
    go_simp
    try rfl
  conv => arg 10; simp only [Act.put, List.setIfInBounds_toArray, List.set_cons_succ, List.set_cons_zero]
  refine Go.FreshS.wpF_reads rfl rfl rfl ?_ (fun w' hw' => ?_) ?_
  rotate_left
  · have hb' := hw'.world
    skip
    clear hw'
    go_simp
    try rfl
  conv => arg 10; simp only [Act.put, List.setIfInBounds_toArray, List.set_cons_succ, List.set_cons_zero]
  refine Go.FreshS.wpF_gspec (by rfl) rfl rfl (fun w' hw' => ?_) ?_
  · have hb' := hw'.world
    refine Go.FreshS.gives_of (Go.FreshS.PM (fun x : FV => x.v) (fun x w' => DF w' v55.heap.size x q62) FV.blk w'.heap.size) ?_ (fun _ _ h => h.post (fun _ _ => FV.inj))
    go_simp
    have CT := ofQ 3 1 w' (by decide) (by decide) (by decide) (by decide) (by decide)
    rw [show ((3 : Int) : Rat) / ((1 : Int) : Rat) = q62 from Hq62.out.symm] at CT
    refine CT.mono ?_
    rintro e w'' ⟨za, rfl, ho, hb⟩
    exact ⟨_, rfl, ⟨za, rfl, ho.mono hb'.size, ho.blks⟩, hb⟩
  rintro _ ⟨y80, rfl⟩
  conv => arg 10; simp only [Act.put, List.setIfInBounds_toArray, List.set_cons_succ, List.set_cons_zero]
  refine Go.FreshS.wpF_gspec (by rfl) rfl rfl (fun w' hw' => ?_) ?_
  · have hb' := hw'.world
    refine Go.FreshS.gives_of (Go.FreshS.PK (.string ⟨[51].toArray⟩)) ?_ (fun _ _ h => h.post)
    go_simp
    have f80 := Go.FreshS.made_of (val := (fun x : FV => x.v)) (Φ := fun x w' => DF w' v55.heap.size x q62) (fun _ _ => FV.inj) (hw'.fact 80 (by kernel_rfl))
    have CT := qtext_one y80 q62 w' (HT.out.on (KG.out.trans (hb'.mono KG.out.size))) (f80).k.any (((f80).k).len LQq62.out (by decide : _ ≤ 100)) (LQq62.out.up (by decide : _ ≤ 101)) (by rw [Hq62.out]; decide +kernel)
    rw [show textQ q62 = [51] from text_b Hq62.out] at CT
    refine CT.mono ?_
    rintro e w'' ⟨rfl, hb⟩
    exact ⟨_, rfl, rfl, hb⟩
  rintro _ rfl
  conv => arg 10; simp only [Act.put, List.setIfInBounds_toArray, List.set_cons_succ, List.set_cons_zero]
  refine Go.FreshS.wpF_readsG (by rfl) rfl rfl ?_ (fun w' hw' => ?_) ?_
  rotate_left
  · have hb' := hw'.world
    skip
    clear hw'
    go_simp
    try rfl
  conv => arg 10; simp only [Act.put, List.setIfInBounds_toArray, List.set_cons_succ, List.set_cons_zero]
  refine Go.FreshS.wpF_reads rfl rfl rfl ?_ (fun w' hw' => ?_) ?_
  rotate_left
  · have hb' := hw'.world
    skip
    clear hw'
    go_simp
    try rfl
  conv => arg 10; simp only [Act.put, List.setIfInBounds_toArray, List.set_cons_succ, List.set_cons_zero]
  refine Go.FreshS.wpF_reads rfl rfl rfl ?_ (fun w' hw' => ?_) ?_
  rotate_left
  · have hb' := hw'.world
    skip
    clear hw'
    go_simp
    try rfl
  conv => arg 10; simp only [Act.put, List.setIfInBounds_toArray, List.set_cons_succ, List.set_cons_zero]
  refine Go.FreshS.wpF_gspec (by rfl) rfl rfl (fun w' hw' => ?_) ?_
  · have hb' := hw'.world
    refine Go.FreshS.gives_of (Go.FreshS.PM (fun x : NV => x.v) (fun x w' => DN w' v55.heap.size x z63) NV.blk w'.heap.size) ?_ (fun _ _ h => h.post @NV.inj)
    go_simp
    have CT := ofZ 2 z63 (Hz63.out.symm) w' (by decide) (by decide)
    refine CT.mono ?_
    rintro e w'' ⟨za, rfl, ho, hb⟩
    exact ⟨_, rfl, ⟨za, rfl, ho.mono hb'.size, ho.blks⟩, hb⟩
  rintro _ ⟨y85, rfl⟩
  conv => arg 10; simp only [Act.put, List.setIfInBounds_toArray, List.set_cons_succ, List.set_cons_zero]
  refine Go.FreshS.wpF_gspec (by rfl) rfl rfl (fun w' hw' => ?_) ?_
  · have hb' := hw'.world
    refine Go.FreshS.gives_of (Go.FreshS.PM (fun x : NV => x.v) (fun x w' => DN w' v55.heap.size x z64) NV.blk w'.heap.size) ?_ (fun _ _ h => h.post @NV.inj)
    go_simp
    have CT := ofZ 4 z64 (Hz64.out.symm) w' (by decide) (by decide)
    refine CT.mono ?_
    rintro e w'' ⟨za, rfl, ho, hb⟩
    exact ⟨_, rfl, ⟨za, rfl, ho.mono hb'.size, ho.blks⟩, hb⟩
  rintro _ ⟨y86, rfl⟩
  conv => arg 10; simp only [Act.put, List.setIfInBounds_toArray, List.set_cons_succ, List.set_cons_zero]
  refine Go.FreshS.wpF_readsG (by rfl) rfl rfl ?_ (fun w' hw' => ?_) ?_
  rotate_left
  · have hb' := hw'.world
    skip
    clear hw'
    go_simp
    try rfl
  conv => arg 10; simp only [Act.put, List.setIfInBounds_toArray, List.set_cons_succ, List.set_cons_zero]
  refine Go.FreshS.wpF_gspec (by rfl) rfl rfl (fun w' hw' => ?_) ?_
  · have hb' := hw'.world
    refine Go.FreshS.gives_of (Go.FreshS.PK (.bool false)) ?_ (fun _ _ h => h.post)
    go_simp
    have f85 := Go.FreshS.made_of (val := fun x : NV => x.v) (Φ := fun x w' => DN w' v55.heap.size x z63) @NV.inj (hw'.fact2 87 85 (by kernel_rfl) (by kernel_rfl))
    have f86 := Go.FreshS.made_of (val := fun x : NV => x.v) (Φ := fun x w' => DN w' v55.heap.size x z64) @NV.inj (hw'.fact2 87 86 (by kernel_rfl) (by kernel_rfl))
    have CT := qcheckB (x := ⟨y85, y86⟩) (bf_of f85.k f86.k (by rw [Hz63.out]; rw [Hz64.out]; decide)) ⟨(f85.k.len LZz63.out (by decide)), (f86.k.len LZz64.out (by decide))⟩
    refine CT.mono ?_
    rintro e w'' ⟨rfl, hb⟩
    exact ⟨_, rfl, rfl, hb⟩
  rintro _ rfl
  conv => arg 10; simp only [Act.put, List.setIfInBounds_toArray, List.set_cons_succ, List.set_cons_zero]
  refine Go.FreshS.wpF_readsG (by rfl) rfl rfl ?_ (fun w' hw' => ?_) ?_
  rotate_left
  · have hb' := hw'.world
    skip
    clear hw'
    go_simp
    try rfl
  conv => arg 10; simp only [Act.put, List.setIfInBounds_toArray, List.set_cons_succ, List.set_cons_zero]
  refine Go.FreshS.wpF_reads rfl rfl rfl ?_ (fun w' hw' => ?_) ?_
  rotate_left
  · have hb' := hw'.world
    skip
    clear hw'
    go_simp
    try rfl
  conv => arg 10; simp only [Act.put, List.setIfInBounds_toArray, List.set_cons_succ, List.set_cons_zero]
  refine Go.FreshS.wpF_reads rfl rfl rfl ?_ (fun w' hw' => ?_) ?_
  rotate_left
  · have hb' := hw'.world
    skip
    clear hw'
    go_simp
    try rfl
  conv => arg 10; simp only [Act.put, List.setIfInBounds_toArray, List.set_cons_succ, List.set_cons_zero]
  refine Go.FreshS.wpF_gspec (by rfl) rfl rfl (fun w' hw' => ?_) ?_
  · have hb' := hw'.world
    refine Go.FreshS.gives_of (Go.FreshS.PM (fun x : NV => x.v) (fun x w' => DN w' v55.heap.size x z63) NV.blk w'.heap.size) ?_ (fun _ _ h => h.post @NV.inj)
    go_simp
    have CT := ofZ 2 z63 (Hz63.out.symm) w' (by decide) (by decide)
    refine CT.mono ?_
    rintro e w'' ⟨za, rfl, ho, hb⟩
    exact ⟨_, rfl, ⟨za, rfl, ho.mono hb'.size, ho.blks⟩, hb⟩
  rintro _ ⟨y92, rfl⟩
  conv => arg 10; simp only [Act.put, List.setIfInBounds_toArray, List.set_cons_succ, List.set_cons_zero]
  refine Go.FreshS.wpF_readsG (by rfl) rfl rfl ?_ (fun w' hw' => ?_) ?_
  rotate_left
  · have hb' := hw'.world
    skip
    clear hw'
    go_simp
    try rfl
  conv => arg 10; simp only [Act.put, List.setIfInBounds_toArray, List.set_cons_succ, List.set_cons_zero]
  refine Go.FreshS.wpF_gspec (by rfl) rfl rfl (fun w' hw' => ?_) ?_
  · have hb' := hw'.world
    refine Go.FreshS.gives_of (Go.FreshS.PK (.bool false)) ?_ (fun _ _ h => h.post)
    go_simp
    have f92 := Go.FreshS.made_of (val := fun x : NV => x.v) (Φ := fun x w' => DN w' v55.heap.size x z63) @NV.inj (hw'.fact2 93 92 (by kernel_rfl) (by kernel_rfl))
    have CT := qcheckB (x := ⟨⟨false, none, 0, 0⟩, y92⟩) (bf_of (kn0 w') f92.k (by rw [Hz63.out]; decide)) ⟨(Nat.zero_le _), (f92.k.len LZz63.out (by decide))⟩
    refine CT.mono ?_
    rintro e w'' ⟨rfl, hb⟩
    exact ⟨_, rfl, rfl, hb⟩
  rintro _ rfl
  conv => arg 10; simp only [Act.put, List.setIfInBounds_toArray, List.set_cons_succ, List.set_cons_zero]
  refine Go.FreshS.wpF_readsG (by rfl) rfl rfl ?_ (fun w' hw' => ?_) ?_
  rotate_left
  · have hb' := hw'.world
    skip
    clear hw'
    go_simp
    try rfl
  conv => arg 10; simp only [Act.put, List.setIfInBounds_toArray, List.set_cons_succ, List.set_cons_zero]
  refine Go.FreshS.wpF_reads rfl rfl rfl ?_ (fun w' hw' => ?_) ?_
  rotate_left
  · have hb' := hw'.world
    skip
    clear hw'
    go_simp
    try rfl
  conv => arg 10; simp only [Act.put, List.setIfInBounds_toArray, List.set_cons_succ, List.set_cons_zero]
  refine Go.FreshS.wpF_nil (fun w65 hb hF => ?_)
  clear hF
  clear N23
  clear N47
  clear N53
  clear BX24
  clear BX48
  clear BX54
  have KG := Lib.hid (KG.out.trans (hb.mono KG.out.size))
  clear hb
  go_wp2_with fail
  go_ret
  exact ⟨rfl, KG.out⟩
end Go.Proofs.YtklidpbdgliemaaGreatDoor.Limb
namespace Go.Proofs.YtklidpbdgliemaaGreatDoor.Limb
open Go.RowKit Go.Sort

theorem qc01 : ((0 : Int) : Rat) / ((1 : Int) : Rat) = 0 := by decide +kernel
theorem qc11 : ((1 : Int) : Rat) / ((1 : Int) : Rat) = 1 := by decide +kernel
theorem qci1 : ((1 : Int) : Rat) = 1 := by decide +kernel
theorem cmpQ_cases (p q : Rat) : (p < q ∧ cmpQ p q = -1) ∨ (p = q ∧ cmpQ p q = 0) ∨ (q < p ∧ cmpQ p q = 1) := by
  unfold cmpQ
  rcases Int.lt_trichotomy (p.num * (q.den : Int)) (q.num * (p.den : Int)) with h | h | h
  · exact .inl ⟨(Rat.lt_iff _ _).2 h, cmpZ_lt h⟩
  · refine .inr (.inl ⟨Rat.le_antisymm ((Rat.le_iff _ _).2 (Int.le_of_eq h)) ((Rat.le_iff _ _).2 (Int.le_of_eq h.symm)), cmpZ_eq h⟩)
  · exact .inr (.inr ⟨(Rat.lt_iff _ _).2 h, cmpZ_gt h⟩)
theorem sgQ_cases (p : Rat) : (p < 0 ∧ cmpZ p.num 0 = -1) ∨ (p = 0 ∧ cmpZ p.num 0 = 0) ∨ (0 < p ∧ cmpZ p.num 0 = 1) := by
  have h := cmpQ_cases p 0
  unfold cmpQ at h
  rw [show ((0 : Rat).den : Int) = 1 from rfl, show (0 : Rat).num = 0 from rfl, Int.mul_one, Int.zero_mul] at h
  exact h
theorem cmpQ_range (p q : Rat) : -1 ≤ cmpQ p q ∧ cmpQ p q ≤ 1 := by
  rcases cmpQ_cases p q with ⟨_, e⟩ | ⟨_, e⟩ | ⟨_, e⟩ <;> rw [e] <;> decide
theorem cmpQ_swap (p q : Rat) : cmpQ q p = - cmpQ p q := by
  rcases cmpQ_cases p q with ⟨h, e⟩ | ⟨h, e⟩ | ⟨h, e⟩ <;> rcases cmpQ_cases q p with ⟨k, f⟩ | ⟨k, f⟩ | ⟨k, f⟩ <;> rw [e, f] <;> first | rfl | (exfalso; grind)
theorem cmpQ_same (p q : Rat) : (cmpQ p q == 0) = decide (p = q) := by
  rcases cmpQ_cases p q with ⟨h, e⟩ | ⟨h, e⟩ | ⟨h, e⟩ <;> rw [e]
  · rw [decide_eq_false (by grind)]; rfl
  · rw [decide_eq_true h]; rfl
  · rw [decide_eq_false (by grind)]; rfl
theorem cmpQ_add (p q r : Rat) : cmpQ (p + r) (q + r) = cmpQ p q := by
  rcases cmpQ_cases p q with ⟨h, e⟩ | ⟨h, e⟩ | ⟨h, e⟩ <;> rcases cmpQ_cases (p + r) (q + r) with ⟨k, f⟩ | ⟨k, f⟩ | ⟨k, f⟩ <;> rw [e, f] <;> (exfalso; grind)
theorem sgQ_sub (p q : Rat) : cmpZ (p - q).num 0 = cmpQ p q := by
  rcases cmpQ_cases p q with ⟨h, e⟩ | ⟨h, e⟩ | ⟨h, e⟩ <;> rcases sgQ_cases (p - q) with ⟨k, f⟩ | ⟨k, f⟩ | ⟨k, f⟩ <;> rw [e, f] <;> (exfalso; grind)
theorem cmpQ_mul (p q r : Rat) : cmpQ (p * r) (q * r) = cmpQ p q * cmpZ r.num 0 := by
  have A : ∀ a b c : Rat, a < b → 0 < c → a * c < b * c := fun a b c h k => Rat.mul_lt_mul_of_pos_right h k
  have B : ∀ a b c : Rat, a < b → c < 0 → b * c < a * c := fun a b c h k => by
    have := A a b (-c) h (by grind)
    grind
  rcases sgQ_cases r with ⟨h, e⟩ | ⟨h, e⟩ | ⟨h, e⟩ <;> rcases cmpQ_cases p q with ⟨k, f⟩ | ⟨k, f⟩ | ⟨k, f⟩ <;> rcases cmpQ_cases (p * r) (q * r) with ⟨l, g⟩ | ⟨l, g⟩ | ⟨l, g⟩ <;> rw [e, f, g] <;> first | rfl | (exfalso; subst h; grind) | (exfalso; subst k; grind) | (exfalso; have := B _ _ _ k h; grind) | (exfalso; have := A _ _ _ k h; grind)
theorem cmpQ_trans {p q r : Rat} (h : cmpQ p q ≤ 0) (k : cmpQ q r ≤ 0) : cmpQ p r ≤ 0 := by
  rcases cmpQ_cases p q with ⟨h1, e⟩ | ⟨h1, e⟩ | ⟨h1, e⟩ <;> rcases cmpQ_cases q r with ⟨k1, f⟩ | ⟨k1, f⟩ | ⟨k1, f⟩ <;> rcases cmpQ_cases p r with ⟨l, g⟩ | ⟨l, g⟩ | ⟨l, g⟩ <;> first | omega | (exfalso; grind)
theorem sgQ_neg (p : Rat) : cmpZ (-p).num 0 = - cmpZ p.num 0 := by
  rcases sgQ_cases p with ⟨h, e⟩ | ⟨h, e⟩ | ⟨h, e⟩ <;> rcases sgQ_cases (-p) with ⟨k, f⟩ | ⟨k, f⟩ | ⟨k, f⟩ <;> rw [e, f] <;> first | rfl | (exfalso; grind)
set_option maxRecDepth 100000 in
set_option maxHeartbeats 8000000 in
theorem qsameFr_n1 {w : World} {x1 x2 : FV} {p1 p2 : Rat} (h1 : KF w x1 p1) (b1 : LF x1 900000) (h2 : KF w x2 p2) (b2 : LF x2 900000) (e : p1.num ≠ p2.num) : Calls Tryz.prog 20 #[x1.v, x2.v] w fun e w' => e = .returned (.bool false) ∧ Below w.heap.size w w' := by
  have KG := Lib.hid (Below.refl w.heap.size w)
  have N1 := Lib.hid h1
  have N2 := Lib.hid h2
  have LQp1 := Lib.hid (h1.lq b1)
  have LQp2 := Lib.hid (h2.lq b2)
  have HE := Lib.hid e
  clear h1 h2 b1 b2 e
  go_enter Tryz.func20, Tryz.ntmps20
  go_upto_region 1 with (fail)
  obtain ⟨v3, hV⟩ : ∃ V, V = (w.alloc (.cells #[.bool x1.t.s, .slice x1.t.a x1.t.n x1.t.c, .bool x1.l.s, .slice x1.l.a x1.l.n x1.l.c] 26)).alloc (.cells #[.bool x2.t.s, .slice x2.t.a x2.t.n x2.t.c, .bool x2.l.s, .slice x2.l.a x2.l.n x2.l.c] 26) := ⟨_, rfl⟩
  have hbV : Below w.heap.size w v3 := by rw [hV]; exact (((Below.refl _ _).alloc (Nat.le_refl _) _).alloc (by go_size) _)
  have BX1 := Lib.hid (show Bxs v3 (w.heap.size) 26 [.bool x1.t.s, .slice x1.t.a x1.t.n x1.t.c, .bool x1.l.s, .slice x1.l.a x1.l.n x1.l.c] by have h := (Bxs.new (w) 26 [.bool x1.t.s, .slice x1.t.a x1.t.n x1.t.c, .bool x1.l.s, .slice x1.l.a x1.l.n x1.l.c]).alloc (.cells #[.bool x2.t.s, .slice x2.t.a x2.t.n x2.t.c, .bool x2.l.s, .slice x2.l.a x2.l.n x2.l.c] 26); rw [hV]; exact h)
  have BX2 := Lib.hid (show Bxs v3 (w.heap.size + 1) 26 [.bool x2.t.s, .slice x2.t.a x2.t.n x2.t.c, .bool x2.l.s, .slice x2.l.a x2.l.n x2.l.c] by have h := Bxs.new (w.alloc (.cells #[.bool x1.t.s, .slice x1.t.a x1.t.n x1.t.c, .bool x1.l.s, .slice x1.l.a x1.l.n x1.l.c] 26)) 26 [.bool x2.t.s, .slice x2.t.a x2.t.n x2.t.c, .bool x2.l.s, .slice x2.l.a x2.l.n x2.l.c]; simp only [World.size_alloc] at h; rw [hV]; exact h)
  rw [show (w.alloc (.cells #[.bool x1.t.s, .slice x1.t.a x1.t.n x1.t.c, .bool x1.l.s, .slice x1.l.a x1.l.n x1.l.c] 26)).alloc (.cells #[.bool x2.t.s, .slice x2.t.a x2.t.n x2.t.c, .bool x2.l.s, .slice x2.l.a x2.l.n x2.l.c] 26) = v3 from hV.symm]
  have KG := Lib.hid (KG.out.trans (hbV.mono KG.out.size))
  clear hV hbV
  have cBX10 := BX1.out.cell (i := 0) rfl
  have cBX11 := BX1.out.cell (i := 1) rfl
  have cBX12 := BX1.out.cell (i := 2) rfl
  have cBX13 := BX1.out.cell (i := 3) rfl
  have cBX1f := BX1.out.fz
  have cBX1l := BX1.out.lt
  have cBX20 := BX2.out.cell (i := 0) rfl
  have cBX21 := BX2.out.cell (i := 1) rfl
  have cBX22 := BX2.out.cell (i := 2) rfl
  have cBX23 := BX2.out.cell (i := 3) rfl
  have cBX2f := BX2.out.fz
  have cBX2l := BX2.out.lt
  go_wp2_with fail
  have CT := Lib.hid (sameN ((N1.out.below KG.out)).t (((N1.out.below KG.out)).t.len (Lib.hid LQp1.out.t).out (by decide)) ((N2.out.below KG.out)).t (((N2.out.below KG.out)).t.len (Lib.hid LQp2.out.t).out (by decide)))
  rw [show decide (p1.num = p2.num) = false from decide_eq_false HE.out] at CT
  with_reducible refine CT.out.mono ?_
  rintro e w4 ⟨rfl, hb⟩
  clear CT
  clear cBX10 cBX11 cBX12 cBX13 cBX1f cBX1l
  clear cBX20 cBX21 cBX22 cBX23 cBX2f cBX2l
  clear BX1
  clear BX2
  have KG := Lib.hid (KG.out.trans (hb.mono KG.out.size))
  clear hb
  go_wp2_with fail
  go_ret
  exact ⟨rfl, KG.out⟩
set_option maxRecDepth 100000 in
set_option maxHeartbeats 8000000 in
theorem qsameFr_n2 {w : World} {x1 x2 : FV} {p1 p2 : Rat} (h1 : KF w x1 p1) (b1 : LF x1 900000) (h2 : KF w x2 p2) (b2 : LF x2 900000) (e : p1.num = p2.num) (e2 : (p1.den : Int) ≠ (p2.den : Int)) : Calls Tryz.prog 20 #[x1.v, x2.v] w fun e w' => e = .returned (.bool false) ∧ Below w.heap.size w w' := by
  have KG := Lib.hid (Below.refl w.heap.size w)
  have N1 := Lib.hid h1
  have N2 := Lib.hid h2
  have LQp1 := Lib.hid (h1.lq b1)
  have LQp2 := Lib.hid (h2.lq b2)
  have HE := Lib.hid e
  have HE2 := Lib.hid e2
  clear h1 h2 b1 b2 e e2
  go_enter Tryz.func20, Tryz.ntmps20
  go_upto_region 1 with (fail)
  obtain ⟨v3, hV⟩ : ∃ V, V = (w.alloc (.cells #[.bool x1.t.s, .slice x1.t.a x1.t.n x1.t.c, .bool x1.l.s, .slice x1.l.a x1.l.n x1.l.c] 26)).alloc (.cells #[.bool x2.t.s, .slice x2.t.a x2.t.n x2.t.c, .bool x2.l.s, .slice x2.l.a x2.l.n x2.l.c] 26) := ⟨_, rfl⟩
  have hbV : Below w.heap.size w v3 := by rw [hV]; exact (((Below.refl _ _).alloc (Nat.le_refl _) _).alloc (by go_size) _)
  have BX1 := Lib.hid (show Bxs v3 (w.heap.size) 26 [.bool x1.t.s, .slice x1.t.a x1.t.n x1.t.c, .bool x1.l.s, .slice x1.l.a x1.l.n x1.l.c] by have h := (Bxs.new (w) 26 [.bool x1.t.s, .slice x1.t.a x1.t.n x1.t.c, .bool x1.l.s, .slice x1.l.a x1.l.n x1.l.c]).alloc (.cells #[.bool x2.t.s, .slice x2.t.a x2.t.n x2.t.c, .bool x2.l.s, .slice x2.l.a x2.l.n x2.l.c] 26); rw [hV]; exact h)
  have BX2 := Lib.hid (show Bxs v3 (w.heap.size + 1) 26 [.bool x2.t.s, .slice x2.t.a x2.t.n x2.t.c, .bool x2.l.s, .slice x2.l.a x2.l.n x2.l.c] by have h := Bxs.new (w.alloc (.cells #[.bool x1.t.s, .slice x1.t.a x1.t.n x1.t.c, .bool x1.l.s, .slice x1.l.a x1.l.n x1.l.c] 26)) 26 [.bool x2.t.s, .slice x2.t.a x2.t.n x2.t.c, .bool x2.l.s, .slice x2.l.a x2.l.n x2.l.c]; simp only [World.size_alloc] at h; rw [hV]; exact h)
  rw [show (w.alloc (.cells #[.bool x1.t.s, .slice x1.t.a x1.t.n x1.t.c, .bool x1.l.s, .slice x1.l.a x1.l.n x1.l.c] 26)).alloc (.cells #[.bool x2.t.s, .slice x2.t.a x2.t.n x2.t.c, .bool x2.l.s, .slice x2.l.a x2.l.n x2.l.c] 26) = v3 from hV.symm]
  have KG := Lib.hid (KG.out.trans (hbV.mono KG.out.size))
  clear hV hbV
  have cBX10 := BX1.out.cell (i := 0) rfl
  have cBX11 := BX1.out.cell (i := 1) rfl
  have cBX12 := BX1.out.cell (i := 2) rfl
  have cBX13 := BX1.out.cell (i := 3) rfl
  have cBX1f := BX1.out.fz
  have cBX1l := BX1.out.lt
  have cBX20 := BX2.out.cell (i := 0) rfl
  have cBX21 := BX2.out.cell (i := 1) rfl
  have cBX22 := BX2.out.cell (i := 2) rfl
  have cBX23 := BX2.out.cell (i := 3) rfl
  have cBX2f := BX2.out.fz
  have cBX2l := BX2.out.lt
  go_wp2_with fail
  have CT := Lib.hid (sameN ((N1.out.below KG.out)).t (((N1.out.below KG.out)).t.len (Lib.hid LQp1.out.t).out (by decide)) ((N2.out.below KG.out)).t (((N2.out.below KG.out)).t.len (Lib.hid LQp2.out.t).out (by decide)))
  rw [show decide (p1.num = p2.num) = true from decide_eq_true HE.out] at CT
  with_reducible refine CT.out.mono ?_
  rintro e w4 ⟨rfl, hb⟩
  clear CT
  clear cBX10 cBX11 cBX12 cBX13 cBX1f cBX1l
  clear cBX20 cBX21 cBX22 cBX23 cBX2f cBX2l
  have BX1 := Lib.hid (BX1.out.below hb BX1.out.lt)
  have BX2 := Lib.hid (BX2.out.below hb BX2.out.lt)
  have KG := Lib.hid (KG.out.trans (hb.mono KG.out.size))
  clear hb
  have cBX10 := BX1.out.cell (i := 0) rfl
  have cBX11 := BX1.out.cell (i := 1) rfl
  have cBX12 := BX1.out.cell (i := 2) rfl
  have cBX13 := BX1.out.cell (i := 3) rfl
  have cBX1f := BX1.out.fz
  have cBX1l := BX1.out.lt
  have cBX20 := BX2.out.cell (i := 0) rfl
  have cBX21 := BX2.out.cell (i := 1) rfl
  have cBX22 := BX2.out.cell (i := 2) rfl
  have cBX23 := BX2.out.cell (i := 3) rfl
  have cBX2f := BX2.out.fz
  have cBX2l := BX2.out.lt
  go_wp2_with fail
  have CT := Lib.hid (sameN ((N1.out.below KG.out)).l (((N1.out.below KG.out)).l.len (Lib.hid LQp1.out.l).out (by decide)) ((N2.out.below KG.out)).l (((N2.out.below KG.out)).l.len (Lib.hid LQp2.out.l).out (by decide)))
  rw [show decide ((p1.den : Int) = (p2.den : Int)) = false from decide_eq_false HE2.out] at CT
  with_reducible refine CT.out.mono ?_
  rintro e w5 ⟨rfl, hb⟩
  clear CT
  clear cBX10 cBX11 cBX12 cBX13 cBX1f cBX1l
  clear cBX20 cBX21 cBX22 cBX23 cBX2f cBX2l
  clear BX1
  clear BX2
  have KG := Lib.hid (KG.out.trans (hb.mono KG.out.size))
  clear hb
  go_wp2_with fail
  go_ret
  exact ⟨rfl, KG.out⟩
open Classical in
theorem qsameFrD {w : World} {x1 x2 : FV} {p1 p2 : Rat} (h1 : KF w x1 p1) (b1 : LF x1 900000) (h2 : KF w x2 p2) (b2 : LF x2 900000) : Calls Tryz.prog 20 #[x1.v, x2.v] w fun e w' => e = .returned (.bool (decide (p1 = p2))) ∧ Below w.heap.size w w' := by
  by_cases e : p1.num = p2.num
  · by_cases e2 : (p1.den : Int) = (p2.den : Int)
    · have h := qsameFr h1 b1 h2 b2 (Rat.ext e (Int.ofNat.inj e2))
      rw [decide_eq_true (Rat.ext e (Int.ofNat.inj e2))]; exact h
    · rw [decide_eq_false (fun h => e2 (by rw [h]))]; exact qsameFr_n2 h1 b1 h2 b2 e e2
  · rw [decide_eq_false (fun h => e (by rw [h]))]; exact qsameFr_n1 h1 b1 h2 b2 e
open Classical in
set_option maxRecDepth 100000 in
set_option maxHeartbeats 8000000 in
theorem qsameD {w : World} {x1 x2 : FV} {p1 p2 : Rat} (h1 : KF w x1 p1) (b1 : LF x1 900000) (h2 : KF w x2 p2) (b2 : LF x2 900000) : Calls Tryz.prog 25 #[x1.v, x2.v] w fun e w' => e = .returned (.bool (decide (p1 = p2))) ∧ Below w.heap.size w w' := by
  have KG := Lib.hid (Below.refl w.heap.size w)
  have N1 := Lib.hid h1
  have N2 := Lib.hid h2
  have LQp1 := Lib.hid (h1.lq b1)
  have LQp2 := Lib.hid (h2.lq b2)
  clear h1 h2 b1 b2
  obtain ⟨bd, hbd⟩ : ∃ b, b = decide (p1 = p2) := ⟨_, rfl⟩
  have HBD := Lib.hid hbd
  rw [← hbd]
  clear hbd
  go_enter Tryz.func25, Tryz.ntmps25
  go_upto_region 1 with (fail)
  obtain ⟨v3, hV⟩ : ∃ V, V = (w.alloc (.cells #[.bool x1.t.s, .slice x1.t.a x1.t.n x1.t.c, .bool x1.l.s, .slice x1.l.a x1.l.n x1.l.c] 26)).alloc (.cells #[.bool x2.t.s, .slice x2.t.a x2.t.n x2.t.c, .bool x2.l.s, .slice x2.l.a x2.l.n x2.l.c] 26) := ⟨_, rfl⟩
  have hbV : Below w.heap.size w v3 := by rw [hV]; exact (((Below.refl _ _).alloc (Nat.le_refl _) _).alloc (by go_size) _)
  have BX1 := Lib.hid (show Bxs v3 (w.heap.size) 26 [.bool x1.t.s, .slice x1.t.a x1.t.n x1.t.c, .bool x1.l.s, .slice x1.l.a x1.l.n x1.l.c] by have h := (Bxs.new (w) 26 [.bool x1.t.s, .slice x1.t.a x1.t.n x1.t.c, .bool x1.l.s, .slice x1.l.a x1.l.n x1.l.c]).alloc (.cells #[.bool x2.t.s, .slice x2.t.a x2.t.n x2.t.c, .bool x2.l.s, .slice x2.l.a x2.l.n x2.l.c] 26); rw [hV]; exact h)
  have BX2 := Lib.hid (show Bxs v3 (w.heap.size + 1) 26 [.bool x2.t.s, .slice x2.t.a x2.t.n x2.t.c, .bool x2.l.s, .slice x2.l.a x2.l.n x2.l.c] by have h := Bxs.new (w.alloc (.cells #[.bool x1.t.s, .slice x1.t.a x1.t.n x1.t.c, .bool x1.l.s, .slice x1.l.a x1.l.n x1.l.c] 26)) 26 [.bool x2.t.s, .slice x2.t.a x2.t.n x2.t.c, .bool x2.l.s, .slice x2.l.a x2.l.n x2.l.c]; simp only [World.size_alloc] at h; rw [hV]; exact h)
  rw [show (w.alloc (.cells #[.bool x1.t.s, .slice x1.t.a x1.t.n x1.t.c, .bool x1.l.s, .slice x1.l.a x1.l.n x1.l.c] 26)).alloc (.cells #[.bool x2.t.s, .slice x2.t.a x2.t.n x2.t.c, .bool x2.l.s, .slice x2.l.a x2.l.n x2.l.c] 26) = v3 from hV.symm]
  have KG := Lib.hid (KG.out.trans (hbV.mono KG.out.size))
  clear hV hbV
  have cBX10 := BX1.out.cell (i := 0) rfl
  have cBX11 := BX1.out.cell (i := 1) rfl
  have cBX12 := BX1.out.cell (i := 2) rfl
  have cBX13 := BX1.out.cell (i := 3) rfl
  have cBX1f := BX1.out.fz
  have cBX1l := BX1.out.lt
  have cBX20 := BX2.out.cell (i := 0) rfl
  have cBX21 := BX2.out.cell (i := 1) rfl
  have cBX22 := BX2.out.cell (i := 2) rfl
  have cBX23 := BX2.out.cell (i := 3) rfl
  have cBX2f := BX2.out.fz
  have cBX2l := BX2.out.lt
  go_wp2_with fail
  have CT := Lib.hid (qsameFrD (N1.out.below KG.out) (((N1.out.below KG.out)).len LQp1.out (by decide : _ ≤ 900000)) (N2.out.below KG.out) (((N2.out.below KG.out)).len LQp2.out (by decide : _ ≤ 900000)))
  rw [show decide (p1 = p2) = bd from HBD.out.symm] at CT
  with_reducible refine CT.out.mono ?_
  rintro e w4 ⟨rfl, hb⟩
  clear CT
  clear cBX10 cBX11 cBX12 cBX13 cBX1f cBX1l
  clear cBX20 cBX21 cBX22 cBX23 cBX2f cBX2l
  clear BX1
  clear BX2
  have KG := Lib.hid (KG.out.trans (hb.mono KG.out.size))
  clear hb
  go_wp2_with fail
  go_ret
  exact ⟨rfl, KG.out⟩
end Go.Proofs.YtklidpbdgliemaaGreatDoor.Limb
namespace Go.Proofs.YtklidpbdgliemaaGreatDoor.Limb
end Go.Proofs.YtklidpbdgliemaaGreatDoor.Limb
