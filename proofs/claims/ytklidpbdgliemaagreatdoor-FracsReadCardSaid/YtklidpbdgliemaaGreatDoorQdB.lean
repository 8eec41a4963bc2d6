/-
  A fraction's text is read as it, if its digits are not too many; what is read may be, and is read again from its text.
-/
import Derived.Test.YtklidpbdgliemaaGreatDoorQdA
set_option linter.unusedSimpArgs false
set_option linter.unusedVariables false
namespace Go.Proofs.YtklidpbdgliemaaGreatDoor.Limb
open Go.RowKit Go.Sort

theorem qtextA (x1 : FV) (p1 : Rat) (w : World) (htab : Tab w) (h1 : AF w x1 p1) (b1 : LF x1 100) (lq : LQ p1 101) : Calls Tryz.prog 18 #[x1.v] w fun e w' => e = .returned (.string ⟨(textQ p1).toArray⟩) ∧ Below w.heap.size w w' := by
  by_cases h : (p1.den : Int) = 1
  · exact qtext_one x1 p1 w htab h1 b1 lq h
  · exact qtext_two x1 p1 w htab h1 b1 lq h
theorem qparse_o {s : ByteArray} (w : World) (hs : s.size ≤ 9223372036854775807) : Calls Tryz.prog 12 #[.string s] w (RFZ w (codeF s.data.toList)) := by
  refine (qparse_any s w hs).mono ?_
  rintro e w' (⟨h, x, rfl, _, hb⟩ | ⟨_, rfl, hb⟩)
  · rw [h]; exact ⟨x, rfl, hb⟩
  · exact ⟨⟨⟨false, none, 0, 0⟩, ⟨false, none, 0, 0⟩⟩, rfl, hb⟩
theorem text_zero : textQ (0 : Rat) = [48] := by
  unfold textQ
  rw [if_pos (by decide +kernel), show (0 : Rat).num = ((0 : Nat) : Int) from rfl, Lib.itoa_nonneg, decD_small (by omega)]
  rfl
theorem form48 : codeF [48] = 0 ∧ ratF [48] = 0 := by
  have h := codeF_text 0
  rw [text_zero] at h
  rcases h with ⟨h1, h2, _⟩ | ⟨_, h2⟩
  · exact ⟨h1, h2⟩
  · exact absurd h2 (by decide)
theorem textQ_len {q : Rat} {k : Nat} (h : LQ q k) : (textQ q).length ≤ 18 * k + 5 := by
  have h1 := itoa_len h.t
  have h2 := itoa_len h.l
  unfold textQ
  split
  · omega
  · rw [List.length_append, List.length_cons]; omega
theorem tb_size (l : List UInt8) : (ByteArray.mk l.toArray).size = l.length := by show l.toArray.size = _; rw [List.size_toArray]
set_option maxRecDepth 100000 in
set_option maxHeartbeats 8000000 in
theorem read_great (x1 : FV) (p1 : Rat) (s : ByteArray) (w : World) (htab : Tab w) (h1 : AF w x1 p1) (hg : 25 < x1.t.n ∨ 25 < x1.l.n) : Calls Tryz.prog 4 #[x1.v, .string s] w fun e w' => e = .returned (.bool true) ∧ Below w.heap.size w w' := by
  have HT := Lib.hid htab
  have KG := Lib.hid (Below.refl w.heap.size w)
  have N1 := Lib.hid h1
  have HG := Lib.hid hg
  clear hg
  clear htab h1
  go_enter Tryz.func4, Tryz.ntmps4
  go_upto_region 1 with (fail)
  obtain ⟨v2, hV⟩ : ∃ V, V = w.alloc (.cells #[.bool x1.t.s, .slice x1.t.a x1.t.n x1.t.c, .bool x1.l.s, .slice x1.l.a x1.l.n x1.l.c] 26) := ⟨_, rfl⟩
  have hbV : Below w.heap.size w v2 := by rw [hV]; exact ((Below.refl _ _).alloc (Nat.le_refl _) _)
  have BX1 := Lib.hid (show Bxs v2 (w.heap.size) 26 [.bool x1.t.s, .slice x1.t.a x1.t.n x1.t.c, .bool x1.l.s, .slice x1.l.a x1.l.n x1.l.c] by have h := Bxs.new (w) 26 [.bool x1.t.s, .slice x1.t.a x1.t.n x1.t.c, .bool x1.l.s, .slice x1.l.a x1.l.n x1.l.c]; rw [hV]; exact h)
  rw [show w.alloc (.cells #[.bool x1.t.s, .slice x1.t.a x1.t.n x1.t.c, .bool x1.l.s, .slice x1.l.a x1.l.n x1.l.c] 26) = v2 from hV.symm]
  have KG := Lib.hid (KG.out.trans (hbV.mono KG.out.size))
  clear hV hbV
  go_wp2_with fail
  have CT := Lib.hid (qalive v2 (HT.out.on KG.out))
  with_reducible refine CT.out.mono ?_
  rintro e w3 ⟨rfl, hb⟩
  clear CT
  have BX1 := Lib.hid (BX1.out.below hb BX1.out.lt)
  have KG := Lib.hid (KG.out.trans (hb.mono KG.out.size))
  clear hb
  have cBX10 := BX1.out.cell (i := 0) rfl
  have cBX11 := BX1.out.cell (i := 1) rfl
  have cBX12 := BX1.out.cell (i := 2) rfl
  have cBX13 := BX1.out.cell (i := 3) rfl
  have cBX1f := BX1.out.fz
  have cBX1l := BX1.out.lt
  go_wp2_with fail
  clear cBX10 cBX11 cBX12 cBX13 cBX1f cBX1l
  obtain ⟨v5, hV⟩ : ∃ V, V = w3.alloc (.cells #[.bool x1.t.s, .slice x1.t.a x1.t.n x1.t.c, .bool x1.l.s, .slice x1.l.a x1.l.n x1.l.c] 26) := ⟨_, rfl⟩
  have hbV : Below w3.heap.size w3 v5 := by rw [hV]; exact ((Below.refl _ _).alloc (Nat.le_refl _) _)
  have BX4 := Lib.hid (show Bxs v5 (w3.heap.size) 26 [.bool x1.t.s, .slice x1.t.a x1.t.n x1.t.c, .bool x1.l.s, .slice x1.l.a x1.l.n x1.l.c] by have h := Bxs.new (w3) 26 [.bool x1.t.s, .slice x1.t.a x1.t.n x1.t.c, .bool x1.l.s, .slice x1.l.a x1.l.n x1.l.c]; rw [hV]; exact h)
  rw [show w3.alloc (.cells #[.bool x1.t.s, .slice x1.t.a x1.t.n x1.t.c, .bool x1.l.s, .slice x1.l.a x1.l.n x1.l.c] 26) = v5 from hV.symm]
  have BX1 := Lib.hid (BX1.out.below hbV BX1.out.lt)
  have KG := Lib.hid (KG.out.trans (hbV.mono KG.out.size))
  clear hV hbV
  have cBX10 := BX1.out.cell (i := 0) rfl
  have cBX11 := BX1.out.cell (i := 1) rfl
  have cBX12 := BX1.out.cell (i := 2) rfl
  have cBX13 := BX1.out.cell (i := 3) rfl
  have cBX1f := BX1.out.fz
  have cBX1l := BX1.out.lt
  have CT := Lib.hid (qgreat1 (M := 25) BX4.out)
  rw [show ((25 : Nat) : Int) = 25 from rfl, show decide ((25 < x1.t.n ∨ 25 < x1.l.n)) = true from decide_eq_true HG.out] at CT
  with_reducible refine CT.out.mono ?_
  rintro e w6 ⟨rfl, hb⟩
  clear CT
  clear cBX10 cBX11 cBX12 cBX13 cBX1f cBX1l
  clear BX1
  clear BX4
  have KG := Lib.hid (KG.out.trans (hb.mono KG.out.size))
  clear hb
  go_wp2_with fail
  have CT := Lib.hid (qalive w6 (HT.out.on KG.out))
  with_reducible refine CT.out.mono ?_
  rintro e w7 ⟨rfl, hb⟩
  clear CT
  have KG := Lib.hid (KG.out.trans (hb.mono KG.out.size))
  clear hb
  go_wp2_with fail
  go_ret
  exact ⟨rfl, KG.out⟩
set_option maxRecDepth 100000 in
set_option maxHeartbeats 8000000 in
theorem read_long (x1 : FV) (p1 : Rat) (s : ByteArray) (w : World) (htab : Tab w) (h1 : AF w x1 p1) (b1 : LF x1 25) (hs : 2000 < s.size) : Calls Tryz.prog 4 #[x1.v, .string s] w fun e w' => e = .returned (.bool true) ∧ Below w.heap.size w w' := by
  have HT := Lib.hid htab
  have KG := Lib.hid (Below.refl w.heap.size w)
  have N1 := Lib.hid h1
  have Bx1 := Lib.hid b1
  have LQp1 := Lib.hid (h1.len b1)
  have HS := Lib.hid hs
  clear hs
  clear htab h1 b1
  go_enter Tryz.func4, Tryz.ntmps4
  go_upto_region 1 with (fail)
  obtain ⟨v2, hV⟩ : ∃ V, V = w.alloc (.cells #[.bool x1.t.s, .slice x1.t.a x1.t.n x1.t.c, .bool x1.l.s, .slice x1.l.a x1.l.n x1.l.c] 26) := ⟨_, rfl⟩
  have hbV : Below w.heap.size w v2 := by rw [hV]; exact ((Below.refl _ _).alloc (Nat.le_refl _) _)
  have BX1 := Lib.hid (show Bxs v2 (w.heap.size) 26 [.bool x1.t.s, .slice x1.t.a x1.t.n x1.t.c, .bool x1.l.s, .slice x1.l.a x1.l.n x1.l.c] by have h := Bxs.new (w) 26 [.bool x1.t.s, .slice x1.t.a x1.t.n x1.t.c, .bool x1.l.s, .slice x1.l.a x1.l.n x1.l.c]; rw [hV]; exact h)
  rw [show w.alloc (.cells #[.bool x1.t.s, .slice x1.t.a x1.t.n x1.t.c, .bool x1.l.s, .slice x1.l.a x1.l.n x1.l.c] 26) = v2 from hV.symm]
  have KG := Lib.hid (KG.out.trans (hbV.mono KG.out.size))
  clear hV hbV
  have gs : ((s.size : Int) > 2000) := by have := HS.out; omega
  go_wp2_with fail
  have CT := Lib.hid (qalive v2 (HT.out.on KG.out))
  with_reducible refine CT.out.mono ?_
  rintro e w3 ⟨rfl, hb⟩
  clear CT
  have BX1 := Lib.hid (BX1.out.below hb BX1.out.lt)
  have KG := Lib.hid (KG.out.trans (hb.mono KG.out.size))
  clear hb
  have cBX10 := BX1.out.cell (i := 0) rfl
  have cBX11 := BX1.out.cell (i := 1) rfl
  have cBX12 := BX1.out.cell (i := 2) rfl
  have cBX13 := BX1.out.cell (i := 3) rfl
  have cBX1f := BX1.out.fz
  have cBX1l := BX1.out.lt
  go_wp2_with fail
  clear cBX10 cBX11 cBX12 cBX13 cBX1f cBX1l
  obtain ⟨v5, hV⟩ : ∃ V, V = w3.alloc (.cells #[.bool x1.t.s, .slice x1.t.a x1.t.n x1.t.c, .bool x1.l.s, .slice x1.l.a x1.l.n x1.l.c] 26) := ⟨_, rfl⟩
  have hbV : Below w3.heap.size w3 v5 := by rw [hV]; exact ((Below.refl _ _).alloc (Nat.le_refl _) _)
  have BX4 := Lib.hid (show Bxs v5 (w3.heap.size) 26 [.bool x1.t.s, .slice x1.t.a x1.t.n x1.t.c, .bool x1.l.s, .slice x1.l.a x1.l.n x1.l.c] by have h := Bxs.new (w3) 26 [.bool x1.t.s, .slice x1.t.a x1.t.n x1.t.c, .bool x1.l.s, .slice x1.l.a x1.l.n x1.l.c]; rw [hV]; exact h)
  rw [show w3.alloc (.cells #[.bool x1.t.s, .slice x1.t.a x1.t.n x1.t.c, .bool x1.l.s, .slice x1.l.a x1.l.n x1.l.c] 26) = v5 from hV.symm]
  have BX1 := Lib.hid (BX1.out.below hbV BX1.out.lt)
  have KG := Lib.hid (KG.out.trans (hbV.mono KG.out.size))
  clear hV hbV
  have cBX10 := BX1.out.cell (i := 0) rfl
  have cBX11 := BX1.out.cell (i := 1) rfl
  have cBX12 := BX1.out.cell (i := 2) rfl
  have cBX13 := BX1.out.cell (i := 3) rfl
  have cBX1f := BX1.out.fz
  have cBX1l := BX1.out.lt
  have CT := Lib.hid (qgreat1 (M := 25) BX4.out)
  rw [show ((25 : Nat) : Int) = 25 from rfl, show decide ((25 < x1.t.n ∨ 25 < x1.l.n)) = false from decide_eq_false (by have g0 := Bx1.out; omega)] at CT
  with_reducible refine CT.out.mono ?_
  rintro e w6 ⟨rfl, hb⟩
  clear CT
  clear cBX10 cBX11 cBX12 cBX13 cBX1f cBX1l
  clear BX1
  clear BX4
  have KG := Lib.hid (KG.out.trans (hb.mono KG.out.size))
  clear hb
  go_wp2_with fail
  have CT := Lib.hid (qalive w6 (HT.out.on KG.out))
  with_reducible refine CT.out.mono ?_
  rintro e w7 ⟨rfl, hb⟩
  clear CT
  have KG := Lib.hid (KG.out.trans (hb.mono KG.out.size))
  clear hb
  go_wp2_with fail
  go_ret
  exact ⟨rfl, KG.out⟩
set_option maxRecDepth 100000 in
set_option maxHeartbeats 8000000 in
theorem read_bad_z (x1 : FV) (p1 : Rat) (s : ByteArray) (w : World) (htab : Tab w) (h1 : BF w x1) (b1 : LF x1 25) (hs : s.size ≤ 2000) (hc : codeF s.data.toList = 0) : Calls Tryz.prog 4 #[x1.v, .string s] w fun e w' => e = .returned (.bool true) ∧ Below w.heap.size w w' := by
  have HT := Lib.hid htab
  have KG := Lib.hid (Below.refl w.heap.size w)
  have N1 := Lib.hid h1
  have Bx1 := Lib.hid b1
  have HS := Lib.hid hs
  have HSM : s.size ≤ 9223372036854775807 := by omega
  obtain ⟨tb, htb⟩ : ∃ t : ByteArray, t = ⟨#[48]⟩ := ⟨_, rfl⟩
  have HTB := Lib.hid htb
  have HTM : tb.size ≤ 9223372036854775807 := by rw [htb]; decide
  have TB0 := Lib.hid (show codeF tb.data.toList = 0 by rw [htb]; exact form48.1)
  have etn : (tb.toList == [48]) = true := by rw [htb, ByteArray.toList_eq]; rfl
  have HC := Lib.hid hc
  obtain ⟨qs, hqs⟩ : ∃ q, q = ratF s.data.toList := ⟨_, rfl⟩
  have LQqs := Lib.hid (show LQ qs 23 by rw [hqs]; exact ratF_len hc)
  have HQS := Lib.hid hqs
  have hrt := ratF_text hc
  rw [← hqs] at hrt
  obtain ⟨ub, hub⟩ : ∃ t : ByteArray, t = ⟨(textQ qs).toArray⟩ := ⟨_, rfl⟩
  have HUB := Lib.hid hub
  have hul : ub.size = (textQ qs).length := by rw [hub]; exact tb_size _
  have HUM : ub.size ≤ 9223372036854775807 := by rw [hul]; have := textQ_len LQqs.out; omega
  have HUF := Lib.hid (show codeF ub.data.toList = 0 ∧ ratF ub.data.toList = qs by rw [hub]; exact ⟨hrt.1, hrt.2.1⟩)
  have gu : (ub.size : Int) ≤ (s.size : Int) := by have h1 := hrt.2.2; have h2 : s.data.toList.length = s.size := Array.length_toList; omega
  clear hs htb hc hqs hrt hub hul
  clear htab h1 b1
  obtain ⟨q8, hq8⟩ : ∃ z : Rat, z = ratF tb.data.toList := ⟨_, rfl⟩
  have Hq8 := Lib.hid hq8
  have LQq8 := Lib.hid (show LQ q8 23 by rw [hq8]; exact ratF_len TB0.out)
  clear hq8
  go_enter Tryz.func4, Tryz.ntmps4
  go_upto_region 1 with (fail)
  obtain ⟨v2, hV⟩ : ∃ V, V = w.alloc (.cells #[.bool x1.t.s, .slice x1.t.a x1.t.n x1.t.c, .bool x1.l.s, .slice x1.l.a x1.l.n x1.l.c] 26) := ⟨_, rfl⟩
  have hbV : Below w.heap.size w v2 := by rw [hV]; exact ((Below.refl _ _).alloc (Nat.le_refl _) _)
  have BX1 := Lib.hid (show Bxs v2 (w.heap.size) 26 [.bool x1.t.s, .slice x1.t.a x1.t.n x1.t.c, .bool x1.l.s, .slice x1.l.a x1.l.n x1.l.c] by have h := Bxs.new (w) 26 [.bool x1.t.s, .slice x1.t.a x1.t.n x1.t.c, .bool x1.l.s, .slice x1.l.a x1.l.n x1.l.c]; rw [hV]; exact h)
  rw [show w.alloc (.cells #[.bool x1.t.s, .slice x1.t.a x1.t.n x1.t.c, .bool x1.l.s, .slice x1.l.a x1.l.n x1.l.c] 26) = v2 from hV.symm]
  have KG := Lib.hid (KG.out.trans (hbV.mono KG.out.size))
  clear hV hbV
  have gs : ¬ ((s.size : Int) > 2000) := by have := HS.out; omega
  go_wp2_with fail
  have CT := Lib.hid (qalive v2 (HT.out.on KG.out))
  with_reducible refine CT.out.mono ?_
  rintro e w3 ⟨rfl, hb⟩
  clear CT
  have BX1 := Lib.hid (BX1.out.below hb BX1.out.lt)
  have KG := Lib.hid (KG.out.trans (hb.mono KG.out.size))
  clear hb
  have cBX10 := BX1.out.cell (i := 0) rfl
  have cBX11 := BX1.out.cell (i := 1) rfl
  have cBX12 := BX1.out.cell (i := 2) rfl
  have cBX13 := BX1.out.cell (i := 3) rfl
  have cBX1f := BX1.out.fz
  have cBX1l := BX1.out.lt
  go_wp2_with fail
  clear cBX10 cBX11 cBX12 cBX13 cBX1f cBX1l
  obtain ⟨v5, hV⟩ : ∃ V, V = w3.alloc (.cells #[.bool x1.t.s, .slice x1.t.a x1.t.n x1.t.c, .bool x1.l.s, .slice x1.l.a x1.l.n x1.l.c] 26) := ⟨_, rfl⟩
  have hbV : Below w3.heap.size w3 v5 := by rw [hV]; exact ((Below.refl _ _).alloc (Nat.le_refl _) _)
  have BX4 := Lib.hid (show Bxs v5 (w3.heap.size) 26 [.bool x1.t.s, .slice x1.t.a x1.t.n x1.t.c, .bool x1.l.s, .slice x1.l.a x1.l.n x1.l.c] by have h := Bxs.new (w3) 26 [.bool x1.t.s, .slice x1.t.a x1.t.n x1.t.c, .bool x1.l.s, .slice x1.l.a x1.l.n x1.l.c]; rw [hV]; exact h)
  rw [show w3.alloc (.cells #[.bool x1.t.s, .slice x1.t.a x1.t.n x1.t.c, .bool x1.l.s, .slice x1.l.a x1.l.n x1.l.c] 26) = v5 from hV.symm]
  have BX1 := Lib.hid (BX1.out.below hbV BX1.out.lt)
  have KG := Lib.hid (KG.out.trans (hbV.mono KG.out.size))
  clear hV hbV
  have cBX10 := BX1.out.cell (i := 0) rfl
  have cBX11 := BX1.out.cell (i := 1) rfl
  have cBX12 := BX1.out.cell (i := 2) rfl
  have cBX13 := BX1.out.cell (i := 3) rfl
  have cBX1f := BX1.out.fz
  have cBX1l := BX1.out.lt
  have CT := Lib.hid (qgreat1 (M := 25) BX4.out)
  rw [show ((25 : Nat) : Int) = 25 from rfl, show decide ((25 < x1.t.n ∨ 25 < x1.l.n)) = false from decide_eq_false (by have g0 := Bx1.out; omega)] at CT
  with_reducible refine CT.out.mono ?_
  rintro e w6 ⟨rfl, hb⟩
  clear CT
  clear cBX10 cBX11 cBX12 cBX13 cBX1f cBX1l
  have BX1 := Lib.hid (BX1.out.below hb BX1.out.lt)
  clear BX4
  have KG := Lib.hid (KG.out.trans (hb.mono KG.out.size))
  clear hb
  have cBX10 := BX1.out.cell (i := 0) rfl
  have cBX11 := BX1.out.cell (i := 1) rfl
  have cBX12 := BX1.out.cell (i := 2) rfl
  have cBX13 := BX1.out.cell (i := 3) rfl
  have cBX1f := BX1.out.fz
  have cBX1l := BX1.out.lt
  go_wp2_with fail
  have CT := Lib.hid (qtextA x1 (0 : Rat) w6 (HT.out.on KG.out) ((N1.out.below KG.out)).any (LF.up Bx1.out (by decide : _ ≤ 100)) (((((N1.out.below KG.out)).any).len Bx1.out).up (by decide : _ ≤ 101)))
  rw [show (⟨(textQ (0 : Rat)).toArray⟩ : ByteArray) = tb from by rw [text_zero]; exact HTB.out.symm] at CT
  with_reducible refine CT.out.mono ?_
  rintro e w7 ⟨rfl, hb⟩
  clear CT
  clear cBX10 cBX11 cBX12 cBX13 cBX1f cBX1l
  have BX1 := Lib.hid (BX1.out.below hb BX1.out.lt)
  have KG := Lib.hid (KG.out.trans (hb.mono KG.out.size))
  clear hb
  go_wp2_with fail
  have CT := Lib.hid (qparse_z w7 HTM TB0.out Hq8.out.symm)
  with_reducible refine CT.out.mono ?_
  rintro e w9 ⟨x10, rfl, hN11, hb⟩
  have N11 := Lib.hid hN11
  clear hN11
  clear CT
  have BX1 := Lib.hid (BX1.out.below hb BX1.out.lt)
  have KG := Lib.hid (KG.out.trans (hb.mono KG.out.size))
  clear hb
  clear N11
  go_upto_region 5 with (fail)
  obtain ⟨v13, hV⟩ : ∃ V, V = w9.alloc (.cells #[.bool x10.t.s, .slice x10.t.a x10.t.n x10.t.c, .bool x10.l.s, .slice x10.l.a x10.l.n x10.l.c] 26) := ⟨_, rfl⟩
  have hbV : Below w9.heap.size w9 v13 := by rw [hV]; exact ((Below.refl _ _).alloc (Nat.le_refl _) _)
  have BX12 := Lib.hid (show Bxs v13 (w9.heap.size) 26 [.bool x10.t.s, .slice x10.t.a x10.t.n x10.t.c, .bool x10.l.s, .slice x10.l.a x10.l.n x10.l.c] by have h := Bxs.new (w9) 26 [.bool x10.t.s, .slice x10.t.a x10.t.n x10.t.c, .bool x10.l.s, .slice x10.l.a x10.l.n x10.l.c]; rw [hV]; exact h)
  rw [show w9.alloc (.cells #[.bool x10.t.s, .slice x10.t.a x10.t.n x10.t.c, .bool x10.l.s, .slice x10.l.a x10.l.n x10.l.c] 26) = v13 from hV.symm]
  have BX1 := Lib.hid (BX1.out.below hbV BX1.out.lt)
  have KG := Lib.hid (KG.out.trans (hbV.mono KG.out.size))
  clear hV hbV
  clear BX12
  have cBX10 := BX1.out.cell (i := 0) rfl
  have cBX11 := BX1.out.cell (i := 1) rfl
  have cBX12 := BX1.out.cell (i := 2) rfl
  have cBX13 := BX1.out.cell (i := 3) rfl
  have cBX1f := BX1.out.fz
  have cBX1l := BX1.out.lt
  go_wp2_with fail
  have CT := Lib.hid (qcheckB (N1.out.below KG.out) (LF.up Bx1.out (by decide : _ ≤ 900000)))
  with_reducible refine CT.out.mono ?_
  rintro e w14 ⟨rfl, hb⟩
  clear CT
  clear cBX10 cBX11 cBX12 cBX13 cBX1f cBX1l
  have BX1 := Lib.hid (BX1.out.below hb BX1.out.lt)
  have KG := Lib.hid (KG.out.trans (hb.mono KG.out.size))
  clear hb
  have cBX10 := BX1.out.cell (i := 0) rfl
  have cBX11 := BX1.out.cell (i := 1) rfl
  have cBX12 := BX1.out.cell (i := 2) rfl
  have cBX13 := BX1.out.cell (i := 3) rfl
  have cBX1f := BX1.out.fz
  have cBX1l := BX1.out.lt
  go_wp2_with fail
  have CT := Lib.hid (qcheckB (N1.out.below KG.out) (LF.up Bx1.out (by decide : _ ≤ 900000)))
  with_reducible refine CT.out.mono ?_
  rintro e w15 ⟨rfl, hb⟩
  clear CT
  clear cBX10 cBX11 cBX12 cBX13 cBX1f cBX1l
  clear BX1
  have KG := Lib.hid (KG.out.trans (hb.mono KG.out.size))
  clear hb
  go_wp2_with fail
  have CT := Lib.hid (qparse_z w15 HSM HC.out HQS.out.symm)
  with_reducible refine CT.out.mono ?_
  rintro e w16 ⟨x17, rfl, hN18, hb⟩
  have N18 := Lib.hid hN18
  clear hN18
  clear CT
  have KG := Lib.hid (KG.out.trans (hb.mono KG.out.size))
  clear hb
  go_upto_region 8 with (fail)
  obtain ⟨v20, hV⟩ : ∃ V, V = w16.alloc (.cells #[.bool x17.t.s, .slice x17.t.a x17.t.n x17.t.c, .bool x17.l.s, .slice x17.l.a x17.l.n x17.l.c] 26) := ⟨_, rfl⟩
  have hbV : Below w16.heap.size w16 v20 := by rw [hV]; exact ((Below.refl _ _).alloc (Nat.le_refl _) _)
  have BX19 := Lib.hid (show Bxs v20 (w16.heap.size) 26 [.bool x17.t.s, .slice x17.t.a x17.t.n x17.t.c, .bool x17.l.s, .slice x17.l.a x17.l.n x17.l.c] by have h := Bxs.new (w16) 26 [.bool x17.t.s, .slice x17.t.a x17.t.n x17.t.c, .bool x17.l.s, .slice x17.l.a x17.l.n x17.l.c]; rw [hV]; exact h)
  rw [show w16.alloc (.cells #[.bool x17.t.s, .slice x17.t.a x17.t.n x17.t.c, .bool x17.l.s, .slice x17.l.a x17.l.n x17.l.c] 26) = v20 from hV.symm]
  have N18 := Lib.hid (N18.out.below hbV)
  have KG := Lib.hid (KG.out.trans (hbV.mono KG.out.size))
  clear hV hbV
  have cBX190 := BX19.out.cell (i := 0) rfl
  have cBX191 := BX19.out.cell (i := 1) rfl
  have cBX192 := BX19.out.cell (i := 2) rfl
  have cBX193 := BX19.out.cell (i := 3) rfl
  have cBX19f := BX19.out.fz
  have cBX19l := BX19.out.lt
  go_wp2_with fail
  have CT := Lib.hid (qtextA x17 qs v20 (HT.out.on KG.out) (N18.out).k.any (((N18.out).k).len LQqs.out (by decide : _ ≤ 100)) (LQqs.out.up (by decide : _ ≤ 101)))
  rw [show (⟨(textQ qs).toArray⟩ : ByteArray) = ub from HUB.out.symm] at CT
  with_reducible refine CT.out.mono ?_
  rintro e w21 ⟨rfl, hb⟩
  clear CT
  clear cBX190 cBX191 cBX192 cBX193 cBX19f cBX19l
  have N18 := Lib.hid (N18.out.below hb)
  have BX19 := Lib.hid (BX19.out.below hb BX19.out.lt)
  have KG := Lib.hid (KG.out.trans (hb.mono KG.out.size))
  clear hb
  go_wp2_with fail
  have CT := Lib.hid (qparse_z w21 HUM HUF.out.1 HUF.out.2)
  with_reducible refine CT.out.mono ?_
  rintro e w22 ⟨x23, rfl, hN24, hb⟩
  have N24 := Lib.hid hN24
  clear hN24
  clear CT
  have N18 := Lib.hid (N18.out.below hb)
  have BX19 := Lib.hid (BX19.out.below hb BX19.out.lt)
  have KG := Lib.hid (KG.out.trans (hb.mono KG.out.size))
  clear hb
  go_upto_region 12 with (fail)
  obtain ⟨v26, hV⟩ : ∃ V, V = w22.alloc (.cells #[.bool x23.t.s, .slice x23.t.a x23.t.n x23.t.c, .bool x23.l.s, .slice x23.l.a x23.l.n x23.l.c] 26) := ⟨_, rfl⟩
  have hbV : Below w22.heap.size w22 v26 := by rw [hV]; exact ((Below.refl _ _).alloc (Nat.le_refl _) _)
  have BX25 := Lib.hid (show Bxs v26 (w22.heap.size) 26 [.bool x23.t.s, .slice x23.t.a x23.t.n x23.t.c, .bool x23.l.s, .slice x23.l.a x23.l.n x23.l.c] by have h := Bxs.new (w22) 26 [.bool x23.t.s, .slice x23.t.a x23.t.n x23.t.c, .bool x23.l.s, .slice x23.l.a x23.l.n x23.l.c]; rw [hV]; exact h)
  rw [show w22.alloc (.cells #[.bool x23.t.s, .slice x23.t.a x23.t.n x23.t.c, .bool x23.l.s, .slice x23.l.a x23.l.n x23.l.c] 26) = v26 from hV.symm]
  have N18 := Lib.hid (N18.out.below hbV)
  have N24 := Lib.hid (N24.out.below hbV)
  have BX19 := Lib.hid (BX19.out.below hbV BX19.out.lt)
  have KG := Lib.hid (KG.out.trans (hbV.mono KG.out.size))
  clear hV hbV
  have cBX190 := BX19.out.cell (i := 0) rfl
  have cBX191 := BX19.out.cell (i := 1) rfl
  have cBX192 := BX19.out.cell (i := 2) rfl
  have cBX193 := BX19.out.cell (i := 3) rfl
  have cBX19f := BX19.out.fz
  have cBX19l := BX19.out.lt
  go_wp2_with fail
  have CT := Lib.hid (qcheck (N18.out).k (((N18.out).k).len LQqs.out (by decide : _ ≤ 900000)))
  with_reducible refine CT.out.mono ?_
  rintro e w27 ⟨rfl, hb⟩
  clear CT
  clear cBX190 cBX191 cBX192 cBX193 cBX19f cBX19l
  have N18 := Lib.hid (N18.out.below hb)
  have N24 := Lib.hid (N24.out.below hb)
  have BX19 := Lib.hid (BX19.out.below hb BX19.out.lt)
  have BX25 := Lib.hid (BX25.out.below hb BX25.out.lt)
  have KG := Lib.hid (KG.out.trans (hb.mono KG.out.size))
  clear hb
  have cBX190 := BX19.out.cell (i := 0) rfl
  have cBX191 := BX19.out.cell (i := 1) rfl
  have cBX192 := BX19.out.cell (i := 2) rfl
  have cBX193 := BX19.out.cell (i := 3) rfl
  have cBX19f := BX19.out.fz
  have cBX19l := BX19.out.lt
  have cBX250 := BX25.out.cell (i := 0) rfl
  have cBX251 := BX25.out.cell (i := 1) rfl
  have cBX252 := BX25.out.cell (i := 2) rfl
  have cBX253 := BX25.out.cell (i := 3) rfl
  have cBX25f := BX25.out.fz
  have cBX25l := BX25.out.lt
  go_wp2_with fail
  have CT := Lib.hid (qsame (N18.out).k (((N18.out).k).len LQqs.out (by decide : _ ≤ 900000)) (N24.out).k (((N24.out).k).len LQqs.out (by decide : _ ≤ 900000)) (rfl))
  with_reducible refine CT.out.mono ?_
  rintro e w28 ⟨rfl, hb⟩
  clear CT
  clear cBX190 cBX191 cBX192 cBX193 cBX19f cBX19l
  clear cBX250 cBX251 cBX252 cBX253 cBX25f cBX25l
  clear N18
  have N24 := Lib.hid (N24.out.below hb)
  clear BX19
  have BX25 := Lib.hid (BX25.out.below hb BX25.out.lt)
  have KG := Lib.hid (KG.out.trans (hb.mono KG.out.size))
  clear hb
  have cBX250 := BX25.out.cell (i := 0) rfl
  have cBX251 := BX25.out.cell (i := 1) rfl
  have cBX252 := BX25.out.cell (i := 2) rfl
  have cBX253 := BX25.out.cell (i := 3) rfl
  have cBX25f := BX25.out.fz
  have cBX25l := BX25.out.lt
  go_wp2_with fail
  have CT := Lib.hid (qtextA x23 qs w28 (HT.out.on KG.out) (N24.out).k.any (((N24.out).k).len LQqs.out (by decide : _ ≤ 100)) (LQqs.out.up (by decide : _ ≤ 101)))
  rw [show (⟨(textQ qs).toArray⟩ : ByteArray) = ub from HUB.out.symm] at CT
  with_reducible refine CT.out.mono ?_
  rintro e w29 ⟨rfl, hb⟩
  clear CT
  clear cBX250 cBX251 cBX252 cBX253 cBX25f cBX25l
  clear N24
  clear BX25
  have KG := Lib.hid (KG.out.trans (hb.mono KG.out.size))
  clear hb
  go_wp2_with fail
  go_ret
  exact ⟨rfl, KG.out⟩
set_option maxRecDepth 100000 in
set_option maxHeartbeats 8000000 in
theorem read_bad_c3 (x1 : FV) (p1 : Rat) (s : ByteArray) (w : World) (htab : Tab w) (h1 : BF w x1) (b1 : LF x1 25) (hs : s.size ≤ 2000) (hc : codeF s.data.toList = 3) : Calls Tryz.prog 4 #[x1.v, .string s] w fun e w' => e = .returned (.bool true) ∧ Below w.heap.size w w' := by
  have HT := Lib.hid htab
  have KG := Lib.hid (Below.refl w.heap.size w)
  have N1 := Lib.hid h1
  have Bx1 := Lib.hid b1
  have HS := Lib.hid hs
  have HSM : s.size ≤ 9223372036854775807 := by omega
  obtain ⟨tb, htb⟩ : ∃ t : ByteArray, t = ⟨#[48]⟩ := ⟨_, rfl⟩
  have HTB := Lib.hid htb
  have HTM : tb.size ≤ 9223372036854775807 := by rw [htb]; decide
  have TB0 := Lib.hid (show codeF tb.data.toList = 0 by rw [htb]; exact form48.1)
  have etn : (tb.toList == [48]) = true := by rw [htb, ByteArray.toList_eq]; rfl
  have HC := Lib.hid hc
  clear hs htb hc
  clear htab h1 b1
  obtain ⟨q8, hq8⟩ : ∃ z : Rat, z = ratF tb.data.toList := ⟨_, rfl⟩
  have Hq8 := Lib.hid hq8
  have LQq8 := Lib.hid (show LQ q8 23 by rw [hq8]; exact ratF_len TB0.out)
  clear hq8
  go_enter Tryz.func4, Tryz.ntmps4
  go_upto_region 1 with (fail)
  obtain ⟨v2, hV⟩ : ∃ V, V = w.alloc (.cells #[.bool x1.t.s, .slice x1.t.a x1.t.n x1.t.c, .bool x1.l.s, .slice x1.l.a x1.l.n x1.l.c] 26) := ⟨_, rfl⟩
  have hbV : Below w.heap.size w v2 := by rw [hV]; exact ((Below.refl _ _).alloc (Nat.le_refl _) _)
  have BX1 := Lib.hid (show Bxs v2 (w.heap.size) 26 [.bool x1.t.s, .slice x1.t.a x1.t.n x1.t.c, .bool x1.l.s, .slice x1.l.a x1.l.n x1.l.c] by have h := Bxs.new (w) 26 [.bool x1.t.s, .slice x1.t.a x1.t.n x1.t.c, .bool x1.l.s, .slice x1.l.a x1.l.n x1.l.c]; rw [hV]; exact h)
  rw [show w.alloc (.cells #[.bool x1.t.s, .slice x1.t.a x1.t.n x1.t.c, .bool x1.l.s, .slice x1.l.a x1.l.n x1.l.c] 26) = v2 from hV.symm]
  have KG := Lib.hid (KG.out.trans (hbV.mono KG.out.size))
  clear hV hbV
  have gs : ¬ ((s.size : Int) > 2000) := by have := HS.out; omega
  go_wp2_with fail
  have CT := Lib.hid (qalive v2 (HT.out.on KG.out))
  with_reducible refine CT.out.mono ?_
  rintro e w3 ⟨rfl, hb⟩
  clear CT
  have BX1 := Lib.hid (BX1.out.below hb BX1.out.lt)
  have KG := Lib.hid (KG.out.trans (hb.mono KG.out.size))
  clear hb
  have cBX10 := BX1.out.cell (i := 0) rfl
  have cBX11 := BX1.out.cell (i := 1) rfl
  have cBX12 := BX1.out.cell (i := 2) rfl
  have cBX13 := BX1.out.cell (i := 3) rfl
  have cBX1f := BX1.out.fz
  have cBX1l := BX1.out.lt
  go_wp2_with fail
  clear cBX10 cBX11 cBX12 cBX13 cBX1f cBX1l
  obtain ⟨v5, hV⟩ : ∃ V, V = w3.alloc (.cells #[.bool x1.t.s, .slice x1.t.a x1.t.n x1.t.c, .bool x1.l.s, .slice x1.l.a x1.l.n x1.l.c] 26) := ⟨_, rfl⟩
  have hbV : Below w3.heap.size w3 v5 := by rw [hV]; exact ((Below.refl _ _).alloc (Nat.le_refl _) _)
  have BX4 := Lib.hid (show Bxs v5 (w3.heap.size) 26 [.bool x1.t.s, .slice x1.t.a x1.t.n x1.t.c, .bool x1.l.s, .slice x1.l.a x1.l.n x1.l.c] by have h := Bxs.new (w3) 26 [.bool x1.t.s, .slice x1.t.a x1.t.n x1.t.c, .bool x1.l.s, .slice x1.l.a x1.l.n x1.l.c]; rw [hV]; exact h)
  rw [show w3.alloc (.cells #[.bool x1.t.s, .slice x1.t.a x1.t.n x1.t.c, .bool x1.l.s, .slice x1.l.a x1.l.n x1.l.c] 26) = v5 from hV.symm]
  have BX1 := Lib.hid (BX1.out.below hbV BX1.out.lt)
  have KG := Lib.hid (KG.out.trans (hbV.mono KG.out.size))
  clear hV hbV
  have cBX10 := BX1.out.cell (i := 0) rfl
  have cBX11 := BX1.out.cell (i := 1) rfl
  have cBX12 := BX1.out.cell (i := 2) rfl
  have cBX13 := BX1.out.cell (i := 3) rfl
  have cBX1f := BX1.out.fz
  have cBX1l := BX1.out.lt
  have CT := Lib.hid (qgreat1 (M := 25) BX4.out)
  rw [show ((25 : Nat) : Int) = 25 from rfl, show decide ((25 < x1.t.n ∨ 25 < x1.l.n)) = false from decide_eq_false (by have g0 := Bx1.out; omega)] at CT
  with_reducible refine CT.out.mono ?_
  rintro e w6 ⟨rfl, hb⟩
  clear CT
  clear cBX10 cBX11 cBX12 cBX13 cBX1f cBX1l
  have BX1 := Lib.hid (BX1.out.below hb BX1.out.lt)
  clear BX4
  have KG := Lib.hid (KG.out.trans (hb.mono KG.out.size))
  clear hb
  have cBX10 := BX1.out.cell (i := 0) rfl
  have cBX11 := BX1.out.cell (i := 1) rfl
  have cBX12 := BX1.out.cell (i := 2) rfl
  have cBX13 := BX1.out.cell (i := 3) rfl
  have cBX1f := BX1.out.fz
  have cBX1l := BX1.out.lt
  go_wp2_with fail
  have CT := Lib.hid (qtextA x1 (0 : Rat) w6 (HT.out.on KG.out) ((N1.out.below KG.out)).any (LF.up Bx1.out (by decide : _ ≤ 100)) (((((N1.out.below KG.out)).any).len Bx1.out).up (by decide : _ ≤ 101)))
  rw [show (⟨(textQ (0 : Rat)).toArray⟩ : ByteArray) = tb from by rw [text_zero]; exact HTB.out.symm] at CT
  with_reducible refine CT.out.mono ?_
  rintro e w7 ⟨rfl, hb⟩
  clear CT
  clear cBX10 cBX11 cBX12 cBX13 cBX1f cBX1l
  have BX1 := Lib.hid (BX1.out.below hb BX1.out.lt)
  have KG := Lib.hid (KG.out.trans (hb.mono KG.out.size))
  clear hb
  go_wp2_with fail
  have CT := Lib.hid (qparse_z w7 HTM TB0.out Hq8.out.symm)
  with_reducible refine CT.out.mono ?_
  rintro e w9 ⟨x10, rfl, hN11, hb⟩
  have N11 := Lib.hid hN11
  clear hN11
  clear CT
  have BX1 := Lib.hid (BX1.out.below hb BX1.out.lt)
  have KG := Lib.hid (KG.out.trans (hb.mono KG.out.size))
  clear hb
  clear N11
  go_upto_region 5 with (fail)
  obtain ⟨v13, hV⟩ : ∃ V, V = w9.alloc (.cells #[.bool x10.t.s, .slice x10.t.a x10.t.n x10.t.c, .bool x10.l.s, .slice x10.l.a x10.l.n x10.l.c] 26) := ⟨_, rfl⟩
  have hbV : Below w9.heap.size w9 v13 := by rw [hV]; exact ((Below.refl _ _).alloc (Nat.le_refl _) _)
  have BX12 := Lib.hid (show Bxs v13 (w9.heap.size) 26 [.bool x10.t.s, .slice x10.t.a x10.t.n x10.t.c, .bool x10.l.s, .slice x10.l.a x10.l.n x10.l.c] by have h := Bxs.new (w9) 26 [.bool x10.t.s, .slice x10.t.a x10.t.n x10.t.c, .bool x10.l.s, .slice x10.l.a x10.l.n x10.l.c]; rw [hV]; exact h)
  rw [show w9.alloc (.cells #[.bool x10.t.s, .slice x10.t.a x10.t.n x10.t.c, .bool x10.l.s, .slice x10.l.a x10.l.n x10.l.c] 26) = v13 from hV.symm]
  have BX1 := Lib.hid (BX1.out.below hbV BX1.out.lt)
  have KG := Lib.hid (KG.out.trans (hbV.mono KG.out.size))
  clear hV hbV
  clear BX12
  have cBX10 := BX1.out.cell (i := 0) rfl
  have cBX11 := BX1.out.cell (i := 1) rfl
  have cBX12 := BX1.out.cell (i := 2) rfl
  have cBX13 := BX1.out.cell (i := 3) rfl
  have cBX1f := BX1.out.fz
  have cBX1l := BX1.out.lt
  go_wp2_with fail
  have CT := Lib.hid (qcheckB (N1.out.below KG.out) (LF.up Bx1.out (by decide : _ ≤ 900000)))
  with_reducible refine CT.out.mono ?_
  rintro e w14 ⟨rfl, hb⟩
  clear CT
  clear cBX10 cBX11 cBX12 cBX13 cBX1f cBX1l
  have BX1 := Lib.hid (BX1.out.below hb BX1.out.lt)
  have KG := Lib.hid (KG.out.trans (hb.mono KG.out.size))
  clear hb
  have cBX10 := BX1.out.cell (i := 0) rfl
  have cBX11 := BX1.out.cell (i := 1) rfl
  have cBX12 := BX1.out.cell (i := 2) rfl
  have cBX13 := BX1.out.cell (i := 3) rfl
  have cBX1f := BX1.out.fz
  have cBX1l := BX1.out.lt
  go_wp2_with fail
  have CT := Lib.hid (qcheckB (N1.out.below KG.out) (LF.up Bx1.out (by decide : _ ≤ 900000)))
  with_reducible refine CT.out.mono ?_
  rintro e w15 ⟨rfl, hb⟩
  clear CT
  clear cBX10 cBX11 cBX12 cBX13 cBX1f cBX1l
  clear BX1
  have KG := Lib.hid (KG.out.trans (hb.mono KG.out.size))
  clear hb
  go_wp2_with fail
  have CT := Lib.hid (qparse_c w15 HSM HC.out (by decide))
  with_reducible refine CT.out.mono ?_
  rintro e w16 ⟨rfl, hb⟩
  clear CT
  have KG := Lib.hid (KG.out.trans (hb.mono KG.out.size))
  clear hb
  go_upto_region 8 with (fail)
  obtain ⟨v18, hV⟩ : ∃ V, V = w16.alloc (.cells #[.bool false, .slice none 0 0, .bool false, .slice none 0 0] 26) := ⟨_, rfl⟩
  have hbV : Below w16.heap.size w16 v18 := by rw [hV]; exact ((Below.refl _ _).alloc (Nat.le_refl _) _)
  have BX17 := Lib.hid (show Bxs v18 (w16.heap.size) 26 [.bool false, .slice none 0 0, .bool false, .slice none 0 0] by have h := Bxs.new (w16) 26 [.bool false, .slice none 0 0, .bool false, .slice none 0 0]; rw [hV]; exact h)
  rw [show w16.alloc (.cells #[.bool false, .slice none 0 0, .bool false, .slice none 0 0] 26) = v18 from hV.symm]
  have KG := Lib.hid (KG.out.trans (hbV.mono KG.out.size))
  clear hV hbV
  have cBX170 := BX17.out.cell (i := 0) rfl
  have cBX171 := BX17.out.cell (i := 1) rfl
  have cBX172 := BX17.out.cell (i := 2) rfl
  have cBX173 := BX17.out.cell (i := 3) rfl
  have cBX17f := BX17.out.fz
  have cBX17l := BX17.out.lt
  go_wp2_with fail
  go_ret
  exact ⟨rfl, KG.out⟩
set_option maxRecDepth 100000 in
set_option maxHeartbeats 8000000 in
theorem read_bad_c4 (x1 : FV) (p1 : Rat) (s : ByteArray) (w : World) (htab : Tab w) (h1 : BF w x1) (b1 : LF x1 25) (hs : s.size ≤ 2000) (hc : codeF s.data.toList = 4) : Calls Tryz.prog 4 #[x1.v, .string s] w fun e w' => e = .returned (.bool true) ∧ Below w.heap.size w w' := by
  have HT := Lib.hid htab
  have KG := Lib.hid (Below.refl w.heap.size w)
  have N1 := Lib.hid h1
  have Bx1 := Lib.hid b1
  have HS := Lib.hid hs
  have HSM : s.size ≤ 9223372036854775807 := by omega
  obtain ⟨tb, htb⟩ : ∃ t : ByteArray, t = ⟨#[48]⟩ := ⟨_, rfl⟩
  have HTB := Lib.hid htb
  have HTM : tb.size ≤ 9223372036854775807 := by rw [htb]; decide
  have TB0 := Lib.hid (show codeF tb.data.toList = 0 by rw [htb]; exact form48.1)
  have etn : (tb.toList == [48]) = true := by rw [htb, ByteArray.toList_eq]; rfl
  have HC := Lib.hid hc
  clear hs htb hc
  clear htab h1 b1
  obtain ⟨q8, hq8⟩ : ∃ z : Rat, z = ratF tb.data.toList := ⟨_, rfl⟩
  have Hq8 := Lib.hid hq8
  have LQq8 := Lib.hid (show LQ q8 23 by rw [hq8]; exact ratF_len TB0.out)
  clear hq8
  go_enter Tryz.func4, Tryz.ntmps4
  go_upto_region 1 with (fail)
  obtain ⟨v2, hV⟩ : ∃ V, V = w.alloc (.cells #[.bool x1.t.s, .slice x1.t.a x1.t.n x1.t.c, .bool x1.l.s, .slice x1.l.a x1.l.n x1.l.c] 26) := ⟨_, rfl⟩
  have hbV : Below w.heap.size w v2 := by rw [hV]; exact ((Below.refl _ _).alloc (Nat.le_refl _) _)
  have BX1 := Lib.hid (show Bxs v2 (w.heap.size) 26 [.bool x1.t.s, .slice x1.t.a x1.t.n x1.t.c, .bool x1.l.s, .slice x1.l.a x1.l.n x1.l.c] by have h := Bxs.new (w) 26 [.bool x1.t.s, .slice x1.t.a x1.t.n x1.t.c, .bool x1.l.s, .slice x1.l.a x1.l.n x1.l.c]; rw [hV]; exact h)
  rw [show w.alloc (.cells #[.bool x1.t.s, .slice x1.t.a x1.t.n x1.t.c, .bool x1.l.s, .slice x1.l.a x1.l.n x1.l.c] 26) = v2 from hV.symm]
  have KG := Lib.hid (KG.out.trans (hbV.mono KG.out.size))
  clear hV hbV
  have gs : ¬ ((s.size : Int) > 2000) := by have := HS.out; omega
  go_wp2_with fail
  have CT := Lib.hid (qalive v2 (HT.out.on KG.out))
  with_reducible refine CT.out.mono ?_
  rintro e w3 ⟨rfl, hb⟩
  clear CT
  have BX1 := Lib.hid (BX1.out.below hb BX1.out.lt)
  have KG := Lib.hid (KG.out.trans (hb.mono KG.out.size))
  clear hb
  have cBX10 := BX1.out.cell (i := 0) rfl
  have cBX11 := BX1.out.cell (i := 1) rfl
  have cBX12 := BX1.out.cell (i := 2) rfl
  have cBX13 := BX1.out.cell (i := 3) rfl
  have cBX1f := BX1.out.fz
  have cBX1l := BX1.out.lt
  go_wp2_with fail
  clear cBX10 cBX11 cBX12 cBX13 cBX1f cBX1l
  obtain ⟨v5, hV⟩ : ∃ V, V = w3.alloc (.cells #[.bool x1.t.s, .slice x1.t.a x1.t.n x1.t.c, .bool x1.l.s, .slice x1.l.a x1.l.n x1.l.c] 26) := ⟨_, rfl⟩
  have hbV : Below w3.heap.size w3 v5 := by rw [hV]; exact ((Below.refl _ _).alloc (Nat.le_refl _) _)
  have BX4 := Lib.hid (show Bxs v5 (w3.heap.size) 26 [.bool x1.t.s, .slice x1.t.a x1.t.n x1.t.c, .bool x1.l.s, .slice x1.l.a x1.l.n x1.l.c] by have h := Bxs.new (w3) 26 [.bool x1.t.s, .slice x1.t.a x1.t.n x1.t.c, .bool x1.l.s, .slice x1.l.a x1.l.n x1.l.c]; rw [hV]; exact h)
  rw [show w3.alloc (.cells #[.bool x1.t.s, .slice x1.t.a x1.t.n x1.t.c, .bool x1.l.s, .slice x1.l.a x1.l.n x1.l.c] 26) = v5 from hV.symm]
  have BX1 := Lib.hid (BX1.out.below hbV BX1.out.lt)
  have KG := Lib.hid (KG.out.trans (hbV.mono KG.out.size))
  clear hV hbV
  have cBX10 := BX1.out.cell (i := 0) rfl
  have cBX11 := BX1.out.cell (i := 1) rfl
  have cBX12 := BX1.out.cell (i := 2) rfl
  have cBX13 := BX1.out.cell (i := 3) rfl
  have cBX1f := BX1.out.fz
  have cBX1l := BX1.out.lt
  have CT := Lib.hid (qgreat1 (M := 25) BX4.out)
  rw [show ((25 : Nat) : Int) = 25 from rfl, show decide ((25 < x1.t.n ∨ 25 < x1.l.n)) = false from decide_eq_false (by have g0 := Bx1.out; omega)] at CT
  with_reducible refine CT.out.mono ?_
  rintro e w6 ⟨rfl, hb⟩
  clear CT
  clear cBX10 cBX11 cBX12 cBX13 cBX1f cBX1l
  have BX1 := Lib.hid (BX1.out.below hb BX1.out.lt)
  clear BX4
  have KG := Lib.hid (KG.out.trans (hb.mono KG.out.size))
  clear hb
  have cBX10 := BX1.out.cell (i := 0) rfl
  have cBX11 := BX1.out.cell (i := 1) rfl
  have cBX12 := BX1.out.cell (i := 2) rfl
  have cBX13 := BX1.out.cell (i := 3) rfl
  have cBX1f := BX1.out.fz
  have cBX1l := BX1.out.lt
  go_wp2_with fail
  have CT := Lib.hid (qtextA x1 (0 : Rat) w6 (HT.out.on KG.out) ((N1.out.below KG.out)).any (LF.up Bx1.out (by decide : _ ≤ 100)) (((((N1.out.below KG.out)).any).len Bx1.out).up (by decide : _ ≤ 101)))
  rw [show (⟨(textQ (0 : Rat)).toArray⟩ : ByteArray) = tb from by rw [text_zero]; exact HTB.out.symm] at CT
  with_reducible refine CT.out.mono ?_
  rintro e w7 ⟨rfl, hb⟩
  clear CT
  clear cBX10 cBX11 cBX12 cBX13 cBX1f cBX1l
  have BX1 := Lib.hid (BX1.out.below hb BX1.out.lt)
  have KG := Lib.hid (KG.out.trans (hb.mono KG.out.size))
  clear hb
  go_wp2_with fail
  have CT := Lib.hid (qparse_z w7 HTM TB0.out Hq8.out.symm)
  with_reducible refine CT.out.mono ?_
  rintro e w9 ⟨x10, rfl, hN11, hb⟩
  have N11 := Lib.hid hN11
  clear hN11
  clear CT
  have BX1 := Lib.hid (BX1.out.below hb BX1.out.lt)
  have KG := Lib.hid (KG.out.trans (hb.mono KG.out.size))
  clear hb
  clear N11
  go_upto_region 5 with (fail)
  obtain ⟨v13, hV⟩ : ∃ V, V = w9.alloc (.cells #[.bool x10.t.s, .slice x10.t.a x10.t.n x10.t.c, .bool x10.l.s, .slice x10.l.a x10.l.n x10.l.c] 26) := ⟨_, rfl⟩
  have hbV : Below w9.heap.size w9 v13 := by rw [hV]; exact ((Below.refl _ _).alloc (Nat.le_refl _) _)
  have BX12 := Lib.hid (show Bxs v13 (w9.heap.size) 26 [.bool x10.t.s, .slice x10.t.a x10.t.n x10.t.c, .bool x10.l.s, .slice x10.l.a x10.l.n x10.l.c] by have h := Bxs.new (w9) 26 [.bool x10.t.s, .slice x10.t.a x10.t.n x10.t.c, .bool x10.l.s, .slice x10.l.a x10.l.n x10.l.c]; rw [hV]; exact h)
  rw [show w9.alloc (.cells #[.bool x10.t.s, .slice x10.t.a x10.t.n x10.t.c, .bool x10.l.s, .slice x10.l.a x10.l.n x10.l.c] 26) = v13 from hV.symm]
  have BX1 := Lib.hid (BX1.out.below hbV BX1.out.lt)
  have KG := Lib.hid (KG.out.trans (hbV.mono KG.out.size))
  clear hV hbV
  clear BX12
  have cBX10 := BX1.out.cell (i := 0) rfl
  have cBX11 := BX1.out.cell (i := 1) rfl
  have cBX12 := BX1.out.cell (i := 2) rfl
  have cBX13 := BX1.out.cell (i := 3) rfl
  have cBX1f := BX1.out.fz
  have cBX1l := BX1.out.lt
  go_wp2_with fail
  have CT := Lib.hid (qcheckB (N1.out.below KG.out) (LF.up Bx1.out (by decide : _ ≤ 900000)))
  with_reducible refine CT.out.mono ?_
  rintro e w14 ⟨rfl, hb⟩
  clear CT
  clear cBX10 cBX11 cBX12 cBX13 cBX1f cBX1l
  have BX1 := Lib.hid (BX1.out.below hb BX1.out.lt)
  have KG := Lib.hid (KG.out.trans (hb.mono KG.out.size))
  clear hb
  have cBX10 := BX1.out.cell (i := 0) rfl
  have cBX11 := BX1.out.cell (i := 1) rfl
  have cBX12 := BX1.out.cell (i := 2) rfl
  have cBX13 := BX1.out.cell (i := 3) rfl
  have cBX1f := BX1.out.fz
  have cBX1l := BX1.out.lt
  go_wp2_with fail
  have CT := Lib.hid (qcheckB (N1.out.below KG.out) (LF.up Bx1.out (by decide : _ ≤ 900000)))
  with_reducible refine CT.out.mono ?_
  rintro e w15 ⟨rfl, hb⟩
  clear CT
  clear cBX10 cBX11 cBX12 cBX13 cBX1f cBX1l
  clear BX1
  have KG := Lib.hid (KG.out.trans (hb.mono KG.out.size))
  clear hb
  go_wp2_with fail
  have CT := Lib.hid (qparse_c w15 HSM HC.out (by decide))
  with_reducible refine CT.out.mono ?_
  rintro e w16 ⟨rfl, hb⟩
  clear CT
  have KG := Lib.hid (KG.out.trans (hb.mono KG.out.size))
  clear hb
  go_upto_region 8 with (fail)
  obtain ⟨v18, hV⟩ : ∃ V, V = w16.alloc (.cells #[.bool false, .slice none 0 0, .bool false, .slice none 0 0] 26) := ⟨_, rfl⟩
  have hbV : Below w16.heap.size w16 v18 := by rw [hV]; exact ((Below.refl _ _).alloc (Nat.le_refl _) _)
  have BX17 := Lib.hid (show Bxs v18 (w16.heap.size) 26 [.bool false, .slice none 0 0, .bool false, .slice none 0 0] by have h := Bxs.new (w16) 26 [.bool false, .slice none 0 0, .bool false, .slice none 0 0]; rw [hV]; exact h)
  rw [show w16.alloc (.cells #[.bool false, .slice none 0 0, .bool false, .slice none 0 0] 26) = v18 from hV.symm]
  have KG := Lib.hid (KG.out.trans (hbV.mono KG.out.size))
  clear hV hbV
  have cBX170 := BX17.out.cell (i := 0) rfl
  have cBX171 := BX17.out.cell (i := 1) rfl
  have cBX172 := BX17.out.cell (i := 2) rfl
  have cBX173 := BX17.out.cell (i := 3) rfl
  have cBX17f := BX17.out.fz
  have cBX17l := BX17.out.lt
  go_wp2_with fail
  go_ret
  exact ⟨rfl, KG.out⟩
set_option maxRecDepth 100000 in
set_option maxHeartbeats 8000000 in
theorem read_short_z (x1 : FV) (p1 : Rat) (s : ByteArray) (w : World) (htab : Tab w) (h1 : KF w x1 p1) (b1 : LF x1 25) (hs : s.size ≤ 2000) (ht : (textQ p1).length ≤ 200) (hc : codeF s.data.toList = 0) : Calls Tryz.prog 4 #[x1.v, .string s] w fun e w' => e = .returned (.bool true) ∧ Below w.heap.size w w' := by
  have HT := Lib.hid htab
  have KG := Lib.hid (Below.refl w.heap.size w)
  have N1 := Lib.hid h1
  have Bx1 := Lib.hid b1
  have LQp1 := Lib.hid (h1.lq b1)
  have HS := Lib.hid hs
  have HSM : s.size ≤ 9223372036854775807 := by omega
  obtain ⟨tb, htb⟩ : ∃ t : ByteArray, t = ⟨(textQ p1).toArray⟩ := ⟨_, rfl⟩
  have HTB := Lib.hid htb
  have htl : tb.size = (textQ p1).length := by rw [htb]; exact tb_size _
  have HTM : tb.size ≤ 9223372036854775807 := by rw [htl]; have := textQ_len LQp1.out; omega
  have HTD := Lib.hid (show tb.data.toList = textQ p1 by rw [htb])
  have gt : (tb.size : Int) ≤ 200 := by omega
  have TBF := Lib.hid (show codeF tb.data.toList = 0 ∧ ratF tb.data.toList = p1 by rw [HTD.out]; rcases codeF_text p1 with ⟨a, b, _⟩ | ⟨_, b⟩; exact ⟨a, b⟩; omega)
  have HC := Lib.hid hc
  obtain ⟨qs, hqs⟩ : ∃ q, q = ratF s.data.toList := ⟨_, rfl⟩
  have LQqs := Lib.hid (show LQ qs 23 by rw [hqs]; exact ratF_len hc)
  have HQS := Lib.hid hqs
  have hrt := ratF_text hc
  rw [← hqs] at hrt
  obtain ⟨ub, hub⟩ : ∃ t : ByteArray, t = ⟨(textQ qs).toArray⟩ := ⟨_, rfl⟩
  have HUB := Lib.hid hub
  have hul : ub.size = (textQ qs).length := by rw [hub]; exact tb_size _
  have HUM : ub.size ≤ 9223372036854775807 := by rw [hul]; have := textQ_len LQqs.out; omega
  have HUF := Lib.hid (show codeF ub.data.toList = 0 ∧ ratF ub.data.toList = qs by rw [hub]; exact ⟨hrt.1, hrt.2.1⟩)
  have gu : (ub.size : Int) ≤ (s.size : Int) := by have h1 := hrt.2.2; have h2 : s.data.toList.length = s.size := Array.length_toList; omega
  clear hs htb htl ht hc hqs hrt hub hul
  clear htab h1 b1
  go_enter Tryz.func4, Tryz.ntmps4
  go_upto_region 1 with (fail)
  obtain ⟨v2, hV⟩ : ∃ V, V = w.alloc (.cells #[.bool x1.t.s, .slice x1.t.a x1.t.n x1.t.c, .bool x1.l.s, .slice x1.l.a x1.l.n x1.l.c] 26) := ⟨_, rfl⟩
  have hbV : Below w.heap.size w v2 := by rw [hV]; exact ((Below.refl _ _).alloc (Nat.le_refl _) _)
  have BX1 := Lib.hid (show Bxs v2 (w.heap.size) 26 [.bool x1.t.s, .slice x1.t.a x1.t.n x1.t.c, .bool x1.l.s, .slice x1.l.a x1.l.n x1.l.c] by have h := Bxs.new (w) 26 [.bool x1.t.s, .slice x1.t.a x1.t.n x1.t.c, .bool x1.l.s, .slice x1.l.a x1.l.n x1.l.c]; rw [hV]; exact h)
  rw [show w.alloc (.cells #[.bool x1.t.s, .slice x1.t.a x1.t.n x1.t.c, .bool x1.l.s, .slice x1.l.a x1.l.n x1.l.c] 26) = v2 from hV.symm]
  have KG := Lib.hid (KG.out.trans (hbV.mono KG.out.size))
  clear hV hbV
  have gs : ¬ ((s.size : Int) > 2000) := by have := HS.out; omega
  go_wp2_with fail
  have CT := Lib.hid (qalive v2 (HT.out.on KG.out))
  with_reducible refine CT.out.mono ?_
  rintro e w3 ⟨rfl, hb⟩
  clear CT
  have BX1 := Lib.hid (BX1.out.below hb BX1.out.lt)
  have KG := Lib.hid (KG.out.trans (hb.mono KG.out.size))
  clear hb
  have cBX10 := BX1.out.cell (i := 0) rfl
  have cBX11 := BX1.out.cell (i := 1) rfl
  have cBX12 := BX1.out.cell (i := 2) rfl
  have cBX13 := BX1.out.cell (i := 3) rfl
  have cBX1f := BX1.out.fz
  have cBX1l := BX1.out.lt
  go_wp2_with fail
  clear cBX10 cBX11 cBX12 cBX13 cBX1f cBX1l
  obtain ⟨v5, hV⟩ : ∃ V, V = w3.alloc (.cells #[.bool x1.t.s, .slice x1.t.a x1.t.n x1.t.c, .bool x1.l.s, .slice x1.l.a x1.l.n x1.l.c] 26) := ⟨_, rfl⟩
  have hbV : Below w3.heap.size w3 v5 := by rw [hV]; exact ((Below.refl _ _).alloc (Nat.le_refl _) _)
  have BX4 := Lib.hid (show Bxs v5 (w3.heap.size) 26 [.bool x1.t.s, .slice x1.t.a x1.t.n x1.t.c, .bool x1.l.s, .slice x1.l.a x1.l.n x1.l.c] by have h := Bxs.new (w3) 26 [.bool x1.t.s, .slice x1.t.a x1.t.n x1.t.c, .bool x1.l.s, .slice x1.l.a x1.l.n x1.l.c]; rw [hV]; exact h)
  rw [show w3.alloc (.cells #[.bool x1.t.s, .slice x1.t.a x1.t.n x1.t.c, .bool x1.l.s, .slice x1.l.a x1.l.n x1.l.c] 26) = v5 from hV.symm]
  have BX1 := Lib.hid (BX1.out.below hbV BX1.out.lt)
  have KG := Lib.hid (KG.out.trans (hbV.mono KG.out.size))
  clear hV hbV
  have cBX10 := BX1.out.cell (i := 0) rfl
  have cBX11 := BX1.out.cell (i := 1) rfl
  have cBX12 := BX1.out.cell (i := 2) rfl
  have cBX13 := BX1.out.cell (i := 3) rfl
  have cBX1f := BX1.out.fz
  have cBX1l := BX1.out.lt
  have CT := Lib.hid (qgreat1 (M := 25) BX4.out)
  rw [show ((25 : Nat) : Int) = 25 from rfl, show decide ((25 < x1.t.n ∨ 25 < x1.l.n)) = false from decide_eq_false (by have g0 := (((N1.out.below KG.out)).len LQp1.out (by decide : _ ≤ 25)); omega)] at CT
  with_reducible refine CT.out.mono ?_
  rintro e w6 ⟨rfl, hb⟩
  clear CT
  clear cBX10 cBX11 cBX12 cBX13 cBX1f cBX1l
  have BX1 := Lib.hid (BX1.out.below hb BX1.out.lt)
  clear BX4
  have KG := Lib.hid (KG.out.trans (hb.mono KG.out.size))
  clear hb
  have cBX10 := BX1.out.cell (i := 0) rfl
  have cBX11 := BX1.out.cell (i := 1) rfl
  have cBX12 := BX1.out.cell (i := 2) rfl
  have cBX13 := BX1.out.cell (i := 3) rfl
  have cBX1f := BX1.out.fz
  have cBX1l := BX1.out.lt
  go_wp2_with fail
  have CT := Lib.hid (qtextA x1 p1 w6 (HT.out.on KG.out) ((N1.out.below KG.out)).any (((N1.out.below KG.out)).len LQp1.out (by decide : _ ≤ 100)) (LQp1.out.up (by decide : _ ≤ 101)))
  rw [show (⟨(textQ p1).toArray⟩ : ByteArray) = tb from HTB.out.symm] at CT
  with_reducible refine CT.out.mono ?_
  rintro e w7 ⟨rfl, hb⟩
  clear CT
  clear cBX10 cBX11 cBX12 cBX13 cBX1f cBX1l
  have BX1 := Lib.hid (BX1.out.below hb BX1.out.lt)
  have KG := Lib.hid (KG.out.trans (hb.mono KG.out.size))
  clear hb
  go_wp2_with fail
  have CT := Lib.hid (qparse_z w7 HTM TBF.out.1 TBF.out.2)
  with_reducible refine CT.out.mono ?_
  rintro e w8 ⟨x9, rfl, hN10, hb⟩
  have N10 := Lib.hid hN10
  clear hN10
  clear CT
  have BX1 := Lib.hid (BX1.out.below hb BX1.out.lt)
  have KG := Lib.hid (KG.out.trans (hb.mono KG.out.size))
  clear hb
  go_upto_region 5 with (fail)
  obtain ⟨v12, hV⟩ : ∃ V, V = w8.alloc (.cells #[.bool x9.t.s, .slice x9.t.a x9.t.n x9.t.c, .bool x9.l.s, .slice x9.l.a x9.l.n x9.l.c] 26) := ⟨_, rfl⟩
  have hbV : Below w8.heap.size w8 v12 := by rw [hV]; exact ((Below.refl _ _).alloc (Nat.le_refl _) _)
  have BX11 := Lib.hid (show Bxs v12 (w8.heap.size) 26 [.bool x9.t.s, .slice x9.t.a x9.t.n x9.t.c, .bool x9.l.s, .slice x9.l.a x9.l.n x9.l.c] by have h := Bxs.new (w8) 26 [.bool x9.t.s, .slice x9.t.a x9.t.n x9.t.c, .bool x9.l.s, .slice x9.l.a x9.l.n x9.l.c]; rw [hV]; exact h)
  rw [show w8.alloc (.cells #[.bool x9.t.s, .slice x9.t.a x9.t.n x9.t.c, .bool x9.l.s, .slice x9.l.a x9.l.n x9.l.c] 26) = v12 from hV.symm]
  have N10 := Lib.hid (N10.out.below hbV)
  have BX1 := Lib.hid (BX1.out.below hbV BX1.out.lt)
  have KG := Lib.hid (KG.out.trans (hbV.mono KG.out.size))
  clear hV hbV
  have cBX10 := BX1.out.cell (i := 0) rfl
  have cBX11 := BX1.out.cell (i := 1) rfl
  have cBX12 := BX1.out.cell (i := 2) rfl
  have cBX13 := BX1.out.cell (i := 3) rfl
  have cBX1f := BX1.out.fz
  have cBX1l := BX1.out.lt
  go_wp2_with fail
  have CT := Lib.hid (qcheck (N1.out.below KG.out) (((N1.out.below KG.out)).len LQp1.out (by decide : _ ≤ 900000)))
  with_reducible refine CT.out.mono ?_
  rintro e w13 ⟨rfl, hb⟩
  clear CT
  clear cBX10 cBX11 cBX12 cBX13 cBX1f cBX1l
  have N10 := Lib.hid (N10.out.below hb)
  have BX1 := Lib.hid (BX1.out.below hb BX1.out.lt)
  have BX11 := Lib.hid (BX11.out.below hb BX11.out.lt)
  have KG := Lib.hid (KG.out.trans (hb.mono KG.out.size))
  clear hb
  have cBX10 := BX1.out.cell (i := 0) rfl
  have cBX11 := BX1.out.cell (i := 1) rfl
  have cBX12 := BX1.out.cell (i := 2) rfl
  have cBX13 := BX1.out.cell (i := 3) rfl
  have cBX1f := BX1.out.fz
  have cBX1l := BX1.out.lt
  go_wp2_with fail
  have CT := Lib.hid (qcheck (N1.out.below KG.out) (((N1.out.below KG.out)).len LQp1.out (by decide : _ ≤ 900000)))
  with_reducible refine CT.out.mono ?_
  rintro e w14 ⟨rfl, hb⟩
  clear CT
  clear cBX10 cBX11 cBX12 cBX13 cBX1f cBX1l
  have N10 := Lib.hid (N10.out.below hb)
  have BX1 := Lib.hid (BX1.out.below hb BX1.out.lt)
  have BX11 := Lib.hid (BX11.out.below hb BX11.out.lt)
  have KG := Lib.hid (KG.out.trans (hb.mono KG.out.size))
  clear hb
  have cBX110 := BX11.out.cell (i := 0) rfl
  have cBX111 := BX11.out.cell (i := 1) rfl
  have cBX112 := BX11.out.cell (i := 2) rfl
  have cBX113 := BX11.out.cell (i := 3) rfl
  have cBX11f := BX11.out.fz
  have cBX11l := BX11.out.lt
  have cBX10 := BX1.out.cell (i := 0) rfl
  have cBX11 := BX1.out.cell (i := 1) rfl
  have cBX12 := BX1.out.cell (i := 2) rfl
  have cBX13 := BX1.out.cell (i := 3) rfl
  have cBX1f := BX1.out.fz
  have cBX1l := BX1.out.lt
  go_wp2_with fail
  have CT := Lib.hid (qsame (N10.out).k (((N10.out).k).len LQp1.out (by decide : _ ≤ 900000)) (N1.out.below KG.out) (((N1.out.below KG.out)).len LQp1.out (by decide : _ ≤ 900000)) (rfl))
  with_reducible refine CT.out.mono ?_
  rintro e w15 ⟨rfl, hb⟩
  clear CT
  clear cBX110 cBX111 cBX112 cBX113 cBX11f cBX11l
  clear cBX10 cBX11 cBX12 cBX13 cBX1f cBX1l
  clear N10
  clear BX1
  clear BX11
  have KG := Lib.hid (KG.out.trans (hb.mono KG.out.size))
  clear hb
  go_wp2_with fail
  have CT := Lib.hid (qparse_z w15 HSM HC.out HQS.out.symm)
  with_reducible refine CT.out.mono ?_
  rintro e w16 ⟨x17, rfl, hN18, hb⟩
  have N18 := Lib.hid hN18
  clear hN18
  clear CT
  have KG := Lib.hid (KG.out.trans (hb.mono KG.out.size))
  clear hb
  go_upto_region 8 with (fail)
  obtain ⟨v20, hV⟩ : ∃ V, V = w16.alloc (.cells #[.bool x17.t.s, .slice x17.t.a x17.t.n x17.t.c, .bool x17.l.s, .slice x17.l.a x17.l.n x17.l.c] 26) := ⟨_, rfl⟩
  have hbV : Below w16.heap.size w16 v20 := by rw [hV]; exact ((Below.refl _ _).alloc (Nat.le_refl _) _)
  have BX19 := Lib.hid (show Bxs v20 (w16.heap.size) 26 [.bool x17.t.s, .slice x17.t.a x17.t.n x17.t.c, .bool x17.l.s, .slice x17.l.a x17.l.n x17.l.c] by have h := Bxs.new (w16) 26 [.bool x17.t.s, .slice x17.t.a x17.t.n x17.t.c, .bool x17.l.s, .slice x17.l.a x17.l.n x17.l.c]; rw [hV]; exact h)
  rw [show w16.alloc (.cells #[.bool x17.t.s, .slice x17.t.a x17.t.n x17.t.c, .bool x17.l.s, .slice x17.l.a x17.l.n x17.l.c] 26) = v20 from hV.symm]
  have N18 := Lib.hid (N18.out.below hbV)
  have KG := Lib.hid (KG.out.trans (hbV.mono KG.out.size))
  clear hV hbV
  have cBX190 := BX19.out.cell (i := 0) rfl
  have cBX191 := BX19.out.cell (i := 1) rfl
  have cBX192 := BX19.out.cell (i := 2) rfl
  have cBX193 := BX19.out.cell (i := 3) rfl
  have cBX19f := BX19.out.fz
  have cBX19l := BX19.out.lt
  go_wp2_with fail
  have CT := Lib.hid (qtextA x17 qs v20 (HT.out.on KG.out) (N18.out).k.any (((N18.out).k).len LQqs.out (by decide : _ ≤ 100)) (LQqs.out.up (by decide : _ ≤ 101)))
  rw [show (⟨(textQ qs).toArray⟩ : ByteArray) = ub from HUB.out.symm] at CT
  with_reducible refine CT.out.mono ?_
  rintro e w21 ⟨rfl, hb⟩
  clear CT
  clear cBX190 cBX191 cBX192 cBX193 cBX19f cBX19l
  have N18 := Lib.hid (N18.out.below hb)
  have BX19 := Lib.hid (BX19.out.below hb BX19.out.lt)
  have KG := Lib.hid (KG.out.trans (hb.mono KG.out.size))
  clear hb
  go_wp2_with fail
  have CT := Lib.hid (qparse_z w21 HUM HUF.out.1 HUF.out.2)
  with_reducible refine CT.out.mono ?_
  rintro e w22 ⟨x23, rfl, hN24, hb⟩
  have N24 := Lib.hid hN24
  clear hN24
  clear CT
  have N18 := Lib.hid (N18.out.below hb)
  have BX19 := Lib.hid (BX19.out.below hb BX19.out.lt)
  have KG := Lib.hid (KG.out.trans (hb.mono KG.out.size))
  clear hb
  go_upto_region 12 with (fail)
  obtain ⟨v26, hV⟩ : ∃ V, V = w22.alloc (.cells #[.bool x23.t.s, .slice x23.t.a x23.t.n x23.t.c, .bool x23.l.s, .slice x23.l.a x23.l.n x23.l.c] 26) := ⟨_, rfl⟩
  have hbV : Below w22.heap.size w22 v26 := by rw [hV]; exact ((Below.refl _ _).alloc (Nat.le_refl _) _)
  have BX25 := Lib.hid (show Bxs v26 (w22.heap.size) 26 [.bool x23.t.s, .slice x23.t.a x23.t.n x23.t.c, .bool x23.l.s, .slice x23.l.a x23.l.n x23.l.c] by have h := Bxs.new (w22) 26 [.bool x23.t.s, .slice x23.t.a x23.t.n x23.t.c, .bool x23.l.s, .slice x23.l.a x23.l.n x23.l.c]; rw [hV]; exact h)
  rw [show w22.alloc (.cells #[.bool x23.t.s, .slice x23.t.a x23.t.n x23.t.c, .bool x23.l.s, .slice x23.l.a x23.l.n x23.l.c] 26) = v26 from hV.symm]
  have N18 := Lib.hid (N18.out.below hbV)
  have N24 := Lib.hid (N24.out.below hbV)
  have BX19 := Lib.hid (BX19.out.below hbV BX19.out.lt)
  have KG := Lib.hid (KG.out.trans (hbV.mono KG.out.size))
  clear hV hbV
  have cBX190 := BX19.out.cell (i := 0) rfl
  have cBX191 := BX19.out.cell (i := 1) rfl
  have cBX192 := BX19.out.cell (i := 2) rfl
  have cBX193 := BX19.out.cell (i := 3) rfl
  have cBX19f := BX19.out.fz
  have cBX19l := BX19.out.lt
  go_wp2_with fail
  have CT := Lib.hid (qcheck (N18.out).k (((N18.out).k).len LQqs.out (by decide : _ ≤ 900000)))
  with_reducible refine CT.out.mono ?_
  rintro e w27 ⟨rfl, hb⟩
  clear CT
  clear cBX190 cBX191 cBX192 cBX193 cBX19f cBX19l
  have N18 := Lib.hid (N18.out.below hb)
  have N24 := Lib.hid (N24.out.below hb)
  have BX19 := Lib.hid (BX19.out.below hb BX19.out.lt)
  have BX25 := Lib.hid (BX25.out.below hb BX25.out.lt)
  have KG := Lib.hid (KG.out.trans (hb.mono KG.out.size))
  clear hb
  have cBX190 := BX19.out.cell (i := 0) rfl
  have cBX191 := BX19.out.cell (i := 1) rfl
  have cBX192 := BX19.out.cell (i := 2) rfl
  have cBX193 := BX19.out.cell (i := 3) rfl
  have cBX19f := BX19.out.fz
  have cBX19l := BX19.out.lt
  have cBX250 := BX25.out.cell (i := 0) rfl
  have cBX251 := BX25.out.cell (i := 1) rfl
  have cBX252 := BX25.out.cell (i := 2) rfl
  have cBX253 := BX25.out.cell (i := 3) rfl
  have cBX25f := BX25.out.fz
  have cBX25l := BX25.out.lt
  go_wp2_with fail
  have CT := Lib.hid (qsame (N18.out).k (((N18.out).k).len LQqs.out (by decide : _ ≤ 900000)) (N24.out).k (((N24.out).k).len LQqs.out (by decide : _ ≤ 900000)) (rfl))
  with_reducible refine CT.out.mono ?_
  rintro e w28 ⟨rfl, hb⟩
  clear CT
  clear cBX190 cBX191 cBX192 cBX193 cBX19f cBX19l
  clear cBX250 cBX251 cBX252 cBX253 cBX25f cBX25l
  clear N18
  have N24 := Lib.hid (N24.out.below hb)
  clear BX19
  have BX25 := Lib.hid (BX25.out.below hb BX25.out.lt)
  have KG := Lib.hid (KG.out.trans (hb.mono KG.out.size))
  clear hb
  have cBX250 := BX25.out.cell (i := 0) rfl
  have cBX251 := BX25.out.cell (i := 1) rfl
  have cBX252 := BX25.out.cell (i := 2) rfl
  have cBX253 := BX25.out.cell (i := 3) rfl
  have cBX25f := BX25.out.fz
  have cBX25l := BX25.out.lt
  go_wp2_with fail
  have CT := Lib.hid (qtextA x23 qs w28 (HT.out.on KG.out) (N24.out).k.any (((N24.out).k).len LQqs.out (by decide : _ ≤ 100)) (LQqs.out.up (by decide : _ ≤ 101)))
  rw [show (⟨(textQ qs).toArray⟩ : ByteArray) = ub from HUB.out.symm] at CT
  with_reducible refine CT.out.mono ?_
  rintro e w29 ⟨rfl, hb⟩
  clear CT
  clear cBX250 cBX251 cBX252 cBX253 cBX25f cBX25l
  clear N24
  clear BX25
  have KG := Lib.hid (KG.out.trans (hb.mono KG.out.size))
  clear hb
  go_wp2_with fail
  go_ret
  exact ⟨rfl, KG.out⟩
set_option maxRecDepth 100000 in
set_option maxHeartbeats 8000000 in
theorem read_short_c3 (x1 : FV) (p1 : Rat) (s : ByteArray) (w : World) (htab : Tab w) (h1 : KF w x1 p1) (b1 : LF x1 25) (hs : s.size ≤ 2000) (ht : (textQ p1).length ≤ 200) (hc : codeF s.data.toList = 3) : Calls Tryz.prog 4 #[x1.v, .string s] w fun e w' => e = .returned (.bool true) ∧ Below w.heap.size w w' := by
  have HT := Lib.hid htab
  have KG := Lib.hid (Below.refl w.heap.size w)
  have N1 := Lib.hid h1
  have Bx1 := Lib.hid b1
  have LQp1 := Lib.hid (h1.lq b1)
  have HS := Lib.hid hs
  have HSM : s.size ≤ 9223372036854775807 := by omega
  obtain ⟨tb, htb⟩ : ∃ t : ByteArray, t = ⟨(textQ p1).toArray⟩ := ⟨_, rfl⟩
  have HTB := Lib.hid htb
  have htl : tb.size = (textQ p1).length := by rw [htb]; exact tb_size _
  have HTM : tb.size ≤ 9223372036854775807 := by rw [htl]; have := textQ_len LQp1.out; omega
  have HTD := Lib.hid (show tb.data.toList = textQ p1 by rw [htb])
  have gt : (tb.size : Int) ≤ 200 := by omega
  have TBF := Lib.hid (show codeF tb.data.toList = 0 ∧ ratF tb.data.toList = p1 by rw [HTD.out]; rcases codeF_text p1 with ⟨a, b, _⟩ | ⟨_, b⟩; exact ⟨a, b⟩; omega)
  have HC := Lib.hid hc
  clear hs htb htl ht hc
  clear htab h1 b1
  go_enter Tryz.func4, Tryz.ntmps4
  go_upto_region 1 with (fail)
  obtain ⟨v2, hV⟩ : ∃ V, V = w.alloc (.cells #[.bool x1.t.s, .slice x1.t.a x1.t.n x1.t.c, .bool x1.l.s, .slice x1.l.a x1.l.n x1.l.c] 26) := ⟨_, rfl⟩
  have hbV : Below w.heap.size w v2 := by rw [hV]; exact ((Below.refl _ _).alloc (Nat.le_refl _) _)
  have BX1 := Lib.hid (show Bxs v2 (w.heap.size) 26 [.bool x1.t.s, .slice x1.t.a x1.t.n x1.t.c, .bool x1.l.s, .slice x1.l.a x1.l.n x1.l.c] by have h := Bxs.new (w) 26 [.bool x1.t.s, .slice x1.t.a x1.t.n x1.t.c, .bool x1.l.s, .slice x1.l.a x1.l.n x1.l.c]; rw [hV]; exact h)
  rw [show w.alloc (.cells #[.bool x1.t.s, .slice x1.t.a x1.t.n x1.t.c, .bool x1.l.s, .slice x1.l.a x1.l.n x1.l.c] 26) = v2 from hV.symm]
  have KG := Lib.hid (KG.out.trans (hbV.mono KG.out.size))
  clear hV hbV
  have gs : ¬ ((s.size : Int) > 2000) := by have := HS.out; omega
  go_wp2_with fail
  have CT := Lib.hid (qalive v2 (HT.out.on KG.out))
  with_reducible refine CT.out.mono ?_
  rintro e w3 ⟨rfl, hb⟩
  clear CT
  have BX1 := Lib.hid (BX1.out.below hb BX1.out.lt)
  have KG := Lib.hid (KG.out.trans (hb.mono KG.out.size))
  clear hb
  have cBX10 := BX1.out.cell (i := 0) rfl
  have cBX11 := BX1.out.cell (i := 1) rfl
  have cBX12 := BX1.out.cell (i := 2) rfl
  have cBX13 := BX1.out.cell (i := 3) rfl
  have cBX1f := BX1.out.fz
  have cBX1l := BX1.out.lt
  go_wp2_with fail
  clear cBX10 cBX11 cBX12 cBX13 cBX1f cBX1l
  obtain ⟨v5, hV⟩ : ∃ V, V = w3.alloc (.cells #[.bool x1.t.s, .slice x1.t.a x1.t.n x1.t.c, .bool x1.l.s, .slice x1.l.a x1.l.n x1.l.c] 26) := ⟨_, rfl⟩
  have hbV : Below w3.heap.size w3 v5 := by rw [hV]; exact ((Below.refl _ _).alloc (Nat.le_refl _) _)
  have BX4 := Lib.hid (show Bxs v5 (w3.heap.size) 26 [.bool x1.t.s, .slice x1.t.a x1.t.n x1.t.c, .bool x1.l.s, .slice x1.l.a x1.l.n x1.l.c] by have h := Bxs.new (w3) 26 [.bool x1.t.s, .slice x1.t.a x1.t.n x1.t.c, .bool x1.l.s, .slice x1.l.a x1.l.n x1.l.c]; rw [hV]; exact h)
  rw [show w3.alloc (.cells #[.bool x1.t.s, .slice x1.t.a x1.t.n x1.t.c, .bool x1.l.s, .slice x1.l.a x1.l.n x1.l.c] 26) = v5 from hV.symm]
  have BX1 := Lib.hid (BX1.out.below hbV BX1.out.lt)
  have KG := Lib.hid (KG.out.trans (hbV.mono KG.out.size))
  clear hV hbV
  have cBX10 := BX1.out.cell (i := 0) rfl
  have cBX11 := BX1.out.cell (i := 1) rfl
  have cBX12 := BX1.out.cell (i := 2) rfl
  have cBX13 := BX1.out.cell (i := 3) rfl
  have cBX1f := BX1.out.fz
  have cBX1l := BX1.out.lt
  have CT := Lib.hid (qgreat1 (M := 25) BX4.out)
  rw [show ((25 : Nat) : Int) = 25 from rfl, show decide ((25 < x1.t.n ∨ 25 < x1.l.n)) = false from decide_eq_false (by have g0 := (((N1.out.below KG.out)).len LQp1.out (by decide : _ ≤ 25)); omega)] at CT
  with_reducible refine CT.out.mono ?_
  rintro e w6 ⟨rfl, hb⟩
  clear CT
  clear cBX10 cBX11 cBX12 cBX13 cBX1f cBX1l
  have BX1 := Lib.hid (BX1.out.below hb BX1.out.lt)
  clear BX4
  have KG := Lib.hid (KG.out.trans (hb.mono KG.out.size))
  clear hb
  have cBX10 := BX1.out.cell (i := 0) rfl
  have cBX11 := BX1.out.cell (i := 1) rfl
  have cBX12 := BX1.out.cell (i := 2) rfl
  have cBX13 := BX1.out.cell (i := 3) rfl
  have cBX1f := BX1.out.fz
  have cBX1l := BX1.out.lt
  go_wp2_with fail
  have CT := Lib.hid (qtextA x1 p1 w6 (HT.out.on KG.out) ((N1.out.below KG.out)).any (((N1.out.below KG.out)).len LQp1.out (by decide : _ ≤ 100)) (LQp1.out.up (by decide : _ ≤ 101)))
  rw [show (⟨(textQ p1).toArray⟩ : ByteArray) = tb from HTB.out.symm] at CT
  with_reducible refine CT.out.mono ?_
  rintro e w7 ⟨rfl, hb⟩
  clear CT
  clear cBX10 cBX11 cBX12 cBX13 cBX1f cBX1l
  have BX1 := Lib.hid (BX1.out.below hb BX1.out.lt)
  have KG := Lib.hid (KG.out.trans (hb.mono KG.out.size))
  clear hb
  go_wp2_with fail
  have CT := Lib.hid (qparse_z w7 HTM TBF.out.1 TBF.out.2)
  with_reducible refine CT.out.mono ?_
  rintro e w8 ⟨x9, rfl, hN10, hb⟩
  have N10 := Lib.hid hN10
  clear hN10
  clear CT
  have BX1 := Lib.hid (BX1.out.below hb BX1.out.lt)
  have KG := Lib.hid (KG.out.trans (hb.mono KG.out.size))
  clear hb
  go_upto_region 5 with (fail)
  obtain ⟨v12, hV⟩ : ∃ V, V = w8.alloc (.cells #[.bool x9.t.s, .slice x9.t.a x9.t.n x9.t.c, .bool x9.l.s, .slice x9.l.a x9.l.n x9.l.c] 26) := ⟨_, rfl⟩
  have hbV : Below w8.heap.size w8 v12 := by rw [hV]; exact ((Below.refl _ _).alloc (Nat.le_refl _) _)
  have BX11 := Lib.hid (show Bxs v12 (w8.heap.size) 26 [.bool x9.t.s, .slice x9.t.a x9.t.n x9.t.c, .bool x9.l.s, .slice x9.l.a x9.l.n x9.l.c] by have h := Bxs.new (w8) 26 [.bool x9.t.s, .slice x9.t.a x9.t.n x9.t.c, .bool x9.l.s, .slice x9.l.a x9.l.n x9.l.c]; rw [hV]; exact h)
  rw [show w8.alloc (.cells #[.bool x9.t.s, .slice x9.t.a x9.t.n x9.t.c, .bool x9.l.s, .slice x9.l.a x9.l.n x9.l.c] 26) = v12 from hV.symm]
  have N10 := Lib.hid (N10.out.below hbV)
  have BX1 := Lib.hid (BX1.out.below hbV BX1.out.lt)
  have KG := Lib.hid (KG.out.trans (hbV.mono KG.out.size))
  clear hV hbV
  have cBX10 := BX1.out.cell (i := 0) rfl
  have cBX11 := BX1.out.cell (i := 1) rfl
  have cBX12 := BX1.out.cell (i := 2) rfl
  have cBX13 := BX1.out.cell (i := 3) rfl
  have cBX1f := BX1.out.fz
  have cBX1l := BX1.out.lt
  go_wp2_with fail
  have CT := Lib.hid (qcheck (N1.out.below KG.out) (((N1.out.below KG.out)).len LQp1.out (by decide : _ ≤ 900000)))
  with_reducible refine CT.out.mono ?_
  rintro e w13 ⟨rfl, hb⟩
  clear CT
  clear cBX10 cBX11 cBX12 cBX13 cBX1f cBX1l
  have N10 := Lib.hid (N10.out.below hb)
  have BX1 := Lib.hid (BX1.out.below hb BX1.out.lt)
  have BX11 := Lib.hid (BX11.out.below hb BX11.out.lt)
  have KG := Lib.hid (KG.out.trans (hb.mono KG.out.size))
  clear hb
  have cBX10 := BX1.out.cell (i := 0) rfl
  have cBX11 := BX1.out.cell (i := 1) rfl
  have cBX12 := BX1.out.cell (i := 2) rfl
  have cBX13 := BX1.out.cell (i := 3) rfl
  have cBX1f := BX1.out.fz
  have cBX1l := BX1.out.lt
  go_wp2_with fail
  have CT := Lib.hid (qcheck (N1.out.below KG.out) (((N1.out.below KG.out)).len LQp1.out (by decide : _ ≤ 900000)))
  with_reducible refine CT.out.mono ?_
  rintro e w14 ⟨rfl, hb⟩
  clear CT
  clear cBX10 cBX11 cBX12 cBX13 cBX1f cBX1l
  have N10 := Lib.hid (N10.out.below hb)
  have BX1 := Lib.hid (BX1.out.below hb BX1.out.lt)
  have BX11 := Lib.hid (BX11.out.below hb BX11.out.lt)
  have KG := Lib.hid (KG.out.trans (hb.mono KG.out.size))
  clear hb
  have cBX110 := BX11.out.cell (i := 0) rfl
  have cBX111 := BX11.out.cell (i := 1) rfl
  have cBX112 := BX11.out.cell (i := 2) rfl
  have cBX113 := BX11.out.cell (i := 3) rfl
  have cBX11f := BX11.out.fz
  have cBX11l := BX11.out.lt
  have cBX10 := BX1.out.cell (i := 0) rfl
  have cBX11 := BX1.out.cell (i := 1) rfl
  have cBX12 := BX1.out.cell (i := 2) rfl
  have cBX13 := BX1.out.cell (i := 3) rfl
  have cBX1f := BX1.out.fz
  have cBX1l := BX1.out.lt
  go_wp2_with fail
  have CT := Lib.hid (qsame (N10.out).k (((N10.out).k).len LQp1.out (by decide : _ ≤ 900000)) (N1.out.below KG.out) (((N1.out.below KG.out)).len LQp1.out (by decide : _ ≤ 900000)) (rfl))
  with_reducible refine CT.out.mono ?_
  rintro e w15 ⟨rfl, hb⟩
  clear CT
  clear cBX110 cBX111 cBX112 cBX113 cBX11f cBX11l
  clear cBX10 cBX11 cBX12 cBX13 cBX1f cBX1l
  clear N10
  clear BX1
  clear BX11
  have KG := Lib.hid (KG.out.trans (hb.mono KG.out.size))
  clear hb
  go_wp2_with fail
  have CT := Lib.hid (qparse_c w15 HSM HC.out (by decide))
  with_reducible refine CT.out.mono ?_
  rintro e w16 ⟨rfl, hb⟩
  clear CT
  have KG := Lib.hid (KG.out.trans (hb.mono KG.out.size))
  clear hb
  go_upto_region 8 with (fail)
  obtain ⟨v18, hV⟩ : ∃ V, V = w16.alloc (.cells #[.bool false, .slice none 0 0, .bool false, .slice none 0 0] 26) := ⟨_, rfl⟩
  have hbV : Below w16.heap.size w16 v18 := by rw [hV]; exact ((Below.refl _ _).alloc (Nat.le_refl _) _)
  have BX17 := Lib.hid (show Bxs v18 (w16.heap.size) 26 [.bool false, .slice none 0 0, .bool false, .slice none 0 0] by have h := Bxs.new (w16) 26 [.bool false, .slice none 0 0, .bool false, .slice none 0 0]; rw [hV]; exact h)
  rw [show w16.alloc (.cells #[.bool false, .slice none 0 0, .bool false, .slice none 0 0] 26) = v18 from hV.symm]
  have KG := Lib.hid (KG.out.trans (hbV.mono KG.out.size))
  clear hV hbV
  have cBX170 := BX17.out.cell (i := 0) rfl
  have cBX171 := BX17.out.cell (i := 1) rfl
  have cBX172 := BX17.out.cell (i := 2) rfl
  have cBX173 := BX17.out.cell (i := 3) rfl
  have cBX17f := BX17.out.fz
  have cBX17l := BX17.out.lt
  go_wp2_with fail
  go_ret
  exact ⟨rfl, KG.out⟩
set_option maxRecDepth 100000 in
set_option maxHeartbeats 8000000 in
theorem read_short_c4 (x1 : FV) (p1 : Rat) (s : ByteArray) (w : World) (htab : Tab w) (h1 : KF w x1 p1) (b1 : LF x1 25) (hs : s.size ≤ 2000) (ht : (textQ p1).length ≤ 200) (hc : codeF s.data.toList = 4) : Calls Tryz.prog 4 #[x1.v, .string s] w fun e w' => e = .returned (.bool true) ∧ Below w.heap.size w w' := by
  have HT := Lib.hid htab
  have KG := Lib.hid (Below.refl w.heap.size w)
  have N1 := Lib.hid h1
  have Bx1 := Lib.hid b1
  have LQp1 := Lib.hid (h1.lq b1)
  have HS := Lib.hid hs
  have HSM : s.size ≤ 9223372036854775807 := by omega
  obtain ⟨tb, htb⟩ : ∃ t : ByteArray, t = ⟨(textQ p1).toArray⟩ := ⟨_, rfl⟩
  have HTB := Lib.hid htb
  have htl : tb.size = (textQ p1).length := by rw [htb]; exact tb_size _
  have HTM : tb.size ≤ 9223372036854775807 := by rw [htl]; have := textQ_len LQp1.out; omega
  have HTD := Lib.hid (show tb.data.toList = textQ p1 by rw [htb])
  have gt : (tb.size : Int) ≤ 200 := by omega
  have TBF := Lib.hid (show codeF tb.data.toList = 0 ∧ ratF tb.data.toList = p1 by rw [HTD.out]; rcases codeF_text p1 with ⟨a, b, _⟩ | ⟨_, b⟩; exact ⟨a, b⟩; omega)
  have HC := Lib.hid hc
  clear hs htb htl ht hc
  clear htab h1 b1
  go_enter Tryz.func4, Tryz.ntmps4
  go_upto_region 1 with (fail)
  obtain ⟨v2, hV⟩ : ∃ V, V = w.alloc (.cells #[.bool x1.t.s, .slice x1.t.a x1.t.n x1.t.c, .bool x1.l.s, .slice x1.l.a x1.l.n x1.l.c] 26) := ⟨_, rfl⟩
  have hbV : Below w.heap.size w v2 := by rw [hV]; exact ((Below.refl _ _).alloc (Nat.le_refl _) _)
  have BX1 := Lib.hid (show Bxs v2 (w.heap.size) 26 [.bool x1.t.s, .slice x1.t.a x1.t.n x1.t.c, .bool x1.l.s, .slice x1.l.a x1.l.n x1.l.c] by have h := Bxs.new (w) 26 [.bool x1.t.s, .slice x1.t.a x1.t.n x1.t.c, .bool x1.l.s, .slice x1.l.a x1.l.n x1.l.c]; rw [hV]; exact h)
  rw [show w.alloc (.cells #[.bool x1.t.s, .slice x1.t.a x1.t.n x1.t.c, .bool x1.l.s, .slice x1.l.a x1.l.n x1.l.c] 26) = v2 from hV.symm]
  have KG := Lib.hid (KG.out.trans (hbV.mono KG.out.size))
  clear hV hbV
  have gs : ¬ ((s.size : Int) > 2000) := by have := HS.out; omega
  go_wp2_with fail
  have CT := Lib.hid (qalive v2 (HT.out.on KG.out))
  with_reducible refine CT.out.mono ?_
  rintro e w3 ⟨rfl, hb⟩
  clear CT
  have BX1 := Lib.hid (BX1.out.below hb BX1.out.lt)
  have KG := Lib.hid (KG.out.trans (hb.mono KG.out.size))
  clear hb
  have cBX10 := BX1.out.cell (i := 0) rfl
  have cBX11 := BX1.out.cell (i := 1) rfl
  have cBX12 := BX1.out.cell (i := 2) rfl
  have cBX13 := BX1.out.cell (i := 3) rfl
  have cBX1f := BX1.out.fz
  have cBX1l := BX1.out.lt
  go_wp2_with fail
  clear cBX10 cBX11 cBX12 cBX13 cBX1f cBX1l
  obtain ⟨v5, hV⟩ : ∃ V, V = w3.alloc (.cells #[.bool x1.t.s, .slice x1.t.a x1.t.n x1.t.c, .bool x1.l.s, .slice x1.l.a x1.l.n x1.l.c] 26) := ⟨_, rfl⟩
  have hbV : Below w3.heap.size w3 v5 := by rw [hV]; exact ((Below.refl _ _).alloc (Nat.le_refl _) _)
  have BX4 := Lib.hid (show Bxs v5 (w3.heap.size) 26 [.bool x1.t.s, .slice x1.t.a x1.t.n x1.t.c, .bool x1.l.s, .slice x1.l.a x1.l.n x1.l.c] by have h := Bxs.new (w3) 26 [.bool x1.t.s, .slice x1.t.a x1.t.n x1.t.c, .bool x1.l.s, .slice x1.l.a x1.l.n x1.l.c]; rw [hV]; exact h)
  rw [show w3.alloc (.cells #[.bool x1.t.s, .slice x1.t.a x1.t.n x1.t.c, .bool x1.l.s, .slice x1.l.a x1.l.n x1.l.c] 26) = v5 from hV.symm]
  have BX1 := Lib.hid (BX1.out.below hbV BX1.out.lt)
  have KG := Lib.hid (KG.out.trans (hbV.mono KG.out.size))
  clear hV hbV
  have cBX10 := BX1.out.cell (i := 0) rfl
  have cBX11 := BX1.out.cell (i := 1) rfl
  have cBX12 := BX1.out.cell (i := 2) rfl
  have cBX13 := BX1.out.cell (i := 3) rfl
  have cBX1f := BX1.out.fz
  have cBX1l := BX1.out.lt
  have CT := Lib.hid (qgreat1 (M := 25) BX4.out)
  rw [show ((25 : Nat) : Int) = 25 from rfl, show decide ((25 < x1.t.n ∨ 25 < x1.l.n)) = false from decide_eq_false (by have g0 := (((N1.out.below KG.out)).len LQp1.out (by decide : _ ≤ 25)); omega)] at CT
  with_reducible refine CT.out.mono ?_
  rintro e w6 ⟨rfl, hb⟩
  clear CT
  clear cBX10 cBX11 cBX12 cBX13 cBX1f cBX1l
  have BX1 := Lib.hid (BX1.out.below hb BX1.out.lt)
  clear BX4
  have KG := Lib.hid (KG.out.trans (hb.mono KG.out.size))
  clear hb
  have cBX10 := BX1.out.cell (i := 0) rfl
  have cBX11 := BX1.out.cell (i := 1) rfl
  have cBX12 := BX1.out.cell (i := 2) rfl
  have cBX13 := BX1.out.cell (i := 3) rfl
  have cBX1f := BX1.out.fz
  have cBX1l := BX1.out.lt
  go_wp2_with fail
  have CT := Lib.hid (qtextA x1 p1 w6 (HT.out.on KG.out) ((N1.out.below KG.out)).any (((N1.out.below KG.out)).len LQp1.out (by decide : _ ≤ 100)) (LQp1.out.up (by decide : _ ≤ 101)))
  rw [show (⟨(textQ p1).toArray⟩ : ByteArray) = tb from HTB.out.symm] at CT
  with_reducible refine CT.out.mono ?_
  rintro e w7 ⟨rfl, hb⟩
  clear CT
  clear cBX10 cBX11 cBX12 cBX13 cBX1f cBX1l
  have BX1 := Lib.hid (BX1.out.below hb BX1.out.lt)
  have KG := Lib.hid (KG.out.trans (hb.mono KG.out.size))
  clear hb
  go_wp2_with fail
  have CT := Lib.hid (qparse_z w7 HTM TBF.out.1 TBF.out.2)
  with_reducible refine CT.out.mono ?_
  rintro e w8 ⟨x9, rfl, hN10, hb⟩
  have N10 := Lib.hid hN10
  clear hN10
  clear CT
  have BX1 := Lib.hid (BX1.out.below hb BX1.out.lt)
  have KG := Lib.hid (KG.out.trans (hb.mono KG.out.size))
  clear hb
  go_upto_region 5 with (fail)
  obtain ⟨v12, hV⟩ : ∃ V, V = w8.alloc (.cells #[.bool x9.t.s, .slice x9.t.a x9.t.n x9.t.c, .bool x9.l.s, .slice x9.l.a x9.l.n x9.l.c] 26) := ⟨_, rfl⟩
  have hbV : Below w8.heap.size w8 v12 := by rw [hV]; exact ((Below.refl _ _).alloc (Nat.le_refl _) _)
  have BX11 := Lib.hid (show Bxs v12 (w8.heap.size) 26 [.bool x9.t.s, .slice x9.t.a x9.t.n x9.t.c, .bool x9.l.s, .slice x9.l.a x9.l.n x9.l.c] by have h := Bxs.new (w8) 26 [.bool x9.t.s, .slice x9.t.a x9.t.n x9.t.c, .bool x9.l.s, .slice x9.l.a x9.l.n x9.l.c]; rw [hV]; exact h)
  rw [show w8.alloc (.cells #[.bool x9.t.s, .slice x9.t.a x9.t.n x9.t.c, .bool x9.l.s, .slice x9.l.a x9.l.n x9.l.c] 26) = v12 from hV.symm]
  have N10 := Lib.hid (N10.out.below hbV)
  have BX1 := Lib.hid (BX1.out.below hbV BX1.out.lt)
  have KG := Lib.hid (KG.out.trans (hbV.mono KG.out.size))
  clear hV hbV
  have cBX10 := BX1.out.cell (i := 0) rfl
  have cBX11 := BX1.out.cell (i := 1) rfl
  have cBX12 := BX1.out.cell (i := 2) rfl
  have cBX13 := BX1.out.cell (i := 3) rfl
  have cBX1f := BX1.out.fz
  have cBX1l := BX1.out.lt
  go_wp2_with fail
  have CT := Lib.hid (qcheck (N1.out.below KG.out) (((N1.out.below KG.out)).len LQp1.out (by decide : _ ≤ 900000)))
  with_reducible refine CT.out.mono ?_
  rintro e w13 ⟨rfl, hb⟩
  clear CT
  clear cBX10 cBX11 cBX12 cBX13 cBX1f cBX1l
  have N10 := Lib.hid (N10.out.below hb)
  have BX1 := Lib.hid (BX1.out.below hb BX1.out.lt)
  have BX11 := Lib.hid (BX11.out.below hb BX11.out.lt)
  have KG := Lib.hid (KG.out.trans (hb.mono KG.out.size))
  clear hb
  have cBX10 := BX1.out.cell (i := 0) rfl
  have cBX11 := BX1.out.cell (i := 1) rfl
  have cBX12 := BX1.out.cell (i := 2) rfl
  have cBX13 := BX1.out.cell (i := 3) rfl
  have cBX1f := BX1.out.fz
  have cBX1l := BX1.out.lt
  go_wp2_with fail
  have CT := Lib.hid (qcheck (N1.out.below KG.out) (((N1.out.below KG.out)).len LQp1.out (by decide : _ ≤ 900000)))
  with_reducible refine CT.out.mono ?_
  rintro e w14 ⟨rfl, hb⟩
  clear CT
  clear cBX10 cBX11 cBX12 cBX13 cBX1f cBX1l
  have N10 := Lib.hid (N10.out.below hb)
  have BX1 := Lib.hid (BX1.out.below hb BX1.out.lt)
  have BX11 := Lib.hid (BX11.out.below hb BX11.out.lt)
  have KG := Lib.hid (KG.out.trans (hb.mono KG.out.size))
  clear hb
  have cBX110 := BX11.out.cell (i := 0) rfl
  have cBX111 := BX11.out.cell (i := 1) rfl
  have cBX112 := BX11.out.cell (i := 2) rfl
  have cBX113 := BX11.out.cell (i := 3) rfl
  have cBX11f := BX11.out.fz
  have cBX11l := BX11.out.lt
  have cBX10 := BX1.out.cell (i := 0) rfl
  have cBX11 := BX1.out.cell (i := 1) rfl
  have cBX12 := BX1.out.cell (i := 2) rfl
  have cBX13 := BX1.out.cell (i := 3) rfl
  have cBX1f := BX1.out.fz
  have cBX1l := BX1.out.lt
  go_wp2_with fail
  have CT := Lib.hid (qsame (N10.out).k (((N10.out).k).len LQp1.out (by decide : _ ≤ 900000)) (N1.out.below KG.out) (((N1.out.below KG.out)).len LQp1.out (by decide : _ ≤ 900000)) (rfl))
  with_reducible refine CT.out.mono ?_
  rintro e w15 ⟨rfl, hb⟩
  clear CT
  clear cBX110 cBX111 cBX112 cBX113 cBX11f cBX11l
  clear cBX10 cBX11 cBX12 cBX13 cBX1f cBX1l
  clear N10
  clear BX1
  clear BX11
  have KG := Lib.hid (KG.out.trans (hb.mono KG.out.size))
  clear hb
  go_wp2_with fail
  have CT := Lib.hid (qparse_c w15 HSM HC.out (by decide))
  with_reducible refine CT.out.mono ?_
  rintro e w16 ⟨rfl, hb⟩
  clear CT
  have KG := Lib.hid (KG.out.trans (hb.mono KG.out.size))
  clear hb
  go_upto_region 8 with (fail)
  obtain ⟨v18, hV⟩ : ∃ V, V = w16.alloc (.cells #[.bool false, .slice none 0 0, .bool false, .slice none 0 0] 26) := ⟨_, rfl⟩
  have hbV : Below w16.heap.size w16 v18 := by rw [hV]; exact ((Below.refl _ _).alloc (Nat.le_refl _) _)
  have BX17 := Lib.hid (show Bxs v18 (w16.heap.size) 26 [.bool false, .slice none 0 0, .bool false, .slice none 0 0] by have h := Bxs.new (w16) 26 [.bool false, .slice none 0 0, .bool false, .slice none 0 0]; rw [hV]; exact h)
  rw [show w16.alloc (.cells #[.bool false, .slice none 0 0, .bool false, .slice none 0 0] 26) = v18 from hV.symm]
  have KG := Lib.hid (KG.out.trans (hbV.mono KG.out.size))
  clear hV hbV
  have cBX170 := BX17.out.cell (i := 0) rfl
  have cBX171 := BX17.out.cell (i := 1) rfl
  have cBX172 := BX17.out.cell (i := 2) rfl
  have cBX173 := BX17.out.cell (i := 3) rfl
  have cBX17f := BX17.out.fz
  have cBX17l := BX17.out.lt
  go_wp2_with fail
  go_ret
  exact ⟨rfl, KG.out⟩
set_option maxRecDepth 100000 in
set_option maxHeartbeats 8000000 in
theorem read_over_z (x1 : FV) (p1 : Rat) (s : ByteArray) (w : World) (htab : Tab w) (h1 : KF w x1 p1) (b1 : LF x1 25) (hs : s.size ≤ 2000) (ht : 200 < (textQ p1).length) (hc : codeF s.data.toList = 0) : Calls Tryz.prog 4 #[x1.v, .string s] w fun e w' => e = .returned (.bool true) ∧ Below w.heap.size w w' := by
  have HT := Lib.hid htab
  have KG := Lib.hid (Below.refl w.heap.size w)
  have N1 := Lib.hid h1
  have Bx1 := Lib.hid b1
  have LQp1 := Lib.hid (h1.lq b1)
  have HS := Lib.hid hs
  have HSM : s.size ≤ 9223372036854775807 := by omega
  obtain ⟨tb, htb⟩ : ∃ t : ByteArray, t = ⟨(textQ p1).toArray⟩ := ⟨_, rfl⟩
  have HTB := Lib.hid htb
  have htl : tb.size = (textQ p1).length := by rw [htb]; exact tb_size _
  have HTM : tb.size ≤ 9223372036854775807 := by rw [htl]; have := textQ_len LQp1.out; omega
  have HTD := Lib.hid (show tb.data.toList = textQ p1 by rw [htb])
  have gt : ¬ ((tb.size : Int) ≤ 200) := by omega
  obtain ⟨ce, hce⟩ : ∃ c, c = codeF tb.data.toList := ⟨_, rfl⟩
  have HCE := Lib.hid hce
  have HC := Lib.hid hc
  obtain ⟨qs, hqs⟩ : ∃ q, q = ratF s.data.toList := ⟨_, rfl⟩
  have LQqs := Lib.hid (show LQ qs 23 by rw [hqs]; exact ratF_len hc)
  have HQS := Lib.hid hqs
  have hrt := ratF_text hc
  rw [← hqs] at hrt
  obtain ⟨ub, hub⟩ : ∃ t : ByteArray, t = ⟨(textQ qs).toArray⟩ := ⟨_, rfl⟩
  have HUB := Lib.hid hub
  have hul : ub.size = (textQ qs).length := by rw [hub]; exact tb_size _
  have HUM : ub.size ≤ 9223372036854775807 := by rw [hul]; have := textQ_len LQqs.out; omega
  have HUF := Lib.hid (show codeF ub.data.toList = 0 ∧ ratF ub.data.toList = qs by rw [hub]; exact ⟨hrt.1, hrt.2.1⟩)
  have gu : (ub.size : Int) ≤ (s.size : Int) := by have h1 := hrt.2.2; have h2 : s.data.toList.length = s.size := Array.length_toList; omega
  clear hs htb htl ht hce hc hqs hrt hub hul
  clear htab h1 b1
  go_enter Tryz.func4, Tryz.ntmps4
  go_upto_region 1 with (fail)
  obtain ⟨v2, hV⟩ : ∃ V, V = w.alloc (.cells #[.bool x1.t.s, .slice x1.t.a x1.t.n x1.t.c, .bool x1.l.s, .slice x1.l.a x1.l.n x1.l.c] 26) := ⟨_, rfl⟩
  have hbV : Below w.heap.size w v2 := by rw [hV]; exact ((Below.refl _ _).alloc (Nat.le_refl _) _)
  have BX1 := Lib.hid (show Bxs v2 (w.heap.size) 26 [.bool x1.t.s, .slice x1.t.a x1.t.n x1.t.c, .bool x1.l.s, .slice x1.l.a x1.l.n x1.l.c] by have h := Bxs.new (w) 26 [.bool x1.t.s, .slice x1.t.a x1.t.n x1.t.c, .bool x1.l.s, .slice x1.l.a x1.l.n x1.l.c]; rw [hV]; exact h)
  rw [show w.alloc (.cells #[.bool x1.t.s, .slice x1.t.a x1.t.n x1.t.c, .bool x1.l.s, .slice x1.l.a x1.l.n x1.l.c] 26) = v2 from hV.symm]
  have KG := Lib.hid (KG.out.trans (hbV.mono KG.out.size))
  clear hV hbV
  have gs : ¬ ((s.size : Int) > 2000) := by have := HS.out; omega
  go_wp2_with fail
  have CT := Lib.hid (qalive v2 (HT.out.on KG.out))
  with_reducible refine CT.out.mono ?_
  rintro e w3 ⟨rfl, hb⟩
  clear CT
  have BX1 := Lib.hid (BX1.out.below hb BX1.out.lt)
  have KG := Lib.hid (KG.out.trans (hb.mono KG.out.size))
  clear hb
  have cBX10 := BX1.out.cell (i := 0) rfl
  have cBX11 := BX1.out.cell (i := 1) rfl
  have cBX12 := BX1.out.cell (i := 2) rfl
  have cBX13 := BX1.out.cell (i := 3) rfl
  have cBX1f := BX1.out.fz
  have cBX1l := BX1.out.lt
  go_wp2_with fail
  clear cBX10 cBX11 cBX12 cBX13 cBX1f cBX1l
  obtain ⟨v5, hV⟩ : ∃ V, V = w3.alloc (.cells #[.bool x1.t.s, .slice x1.t.a x1.t.n x1.t.c, .bool x1.l.s, .slice x1.l.a x1.l.n x1.l.c] 26) := ⟨_, rfl⟩
  have hbV : Below w3.heap.size w3 v5 := by rw [hV]; exact ((Below.refl _ _).alloc (Nat.le_refl _) _)
  have BX4 := Lib.hid (show Bxs v5 (w3.heap.size) 26 [.bool x1.t.s, .slice x1.t.a x1.t.n x1.t.c, .bool x1.l.s, .slice x1.l.a x1.l.n x1.l.c] by have h := Bxs.new (w3) 26 [.bool x1.t.s, .slice x1.t.a x1.t.n x1.t.c, .bool x1.l.s, .slice x1.l.a x1.l.n x1.l.c]; rw [hV]; exact h)
  rw [show w3.alloc (.cells #[.bool x1.t.s, .slice x1.t.a x1.t.n x1.t.c, .bool x1.l.s, .slice x1.l.a x1.l.n x1.l.c] 26) = v5 from hV.symm]
  have BX1 := Lib.hid (BX1.out.below hbV BX1.out.lt)
  have KG := Lib.hid (KG.out.trans (hbV.mono KG.out.size))
  clear hV hbV
  have cBX10 := BX1.out.cell (i := 0) rfl
  have cBX11 := BX1.out.cell (i := 1) rfl
  have cBX12 := BX1.out.cell (i := 2) rfl
  have cBX13 := BX1.out.cell (i := 3) rfl
  have cBX1f := BX1.out.fz
  have cBX1l := BX1.out.lt
  have CT := Lib.hid (qgreat1 (M := 25) BX4.out)
  rw [show ((25 : Nat) : Int) = 25 from rfl, show decide ((25 < x1.t.n ∨ 25 < x1.l.n)) = false from decide_eq_false (by have g0 := (((N1.out.below KG.out)).len LQp1.out (by decide : _ ≤ 25)); omega)] at CT
  with_reducible refine CT.out.mono ?_
  rintro e w6 ⟨rfl, hb⟩
  clear CT
  clear cBX10 cBX11 cBX12 cBX13 cBX1f cBX1l
  have BX1 := Lib.hid (BX1.out.below hb BX1.out.lt)
  clear BX4
  have KG := Lib.hid (KG.out.trans (hb.mono KG.out.size))
  clear hb
  have cBX10 := BX1.out.cell (i := 0) rfl
  have cBX11 := BX1.out.cell (i := 1) rfl
  have cBX12 := BX1.out.cell (i := 2) rfl
  have cBX13 := BX1.out.cell (i := 3) rfl
  have cBX1f := BX1.out.fz
  have cBX1l := BX1.out.lt
  go_wp2_with fail
  have CT := Lib.hid (qtextA x1 p1 w6 (HT.out.on KG.out) ((N1.out.below KG.out)).any (((N1.out.below KG.out)).len LQp1.out (by decide : _ ≤ 100)) (LQp1.out.up (by decide : _ ≤ 101)))
  rw [show (⟨(textQ p1).toArray⟩ : ByteArray) = tb from HTB.out.symm] at CT
  with_reducible refine CT.out.mono ?_
  rintro e w7 ⟨rfl, hb⟩
  clear CT
  clear cBX10 cBX11 cBX12 cBX13 cBX1f cBX1l
  have BX1 := Lib.hid (BX1.out.below hb BX1.out.lt)
  have KG := Lib.hid (KG.out.trans (hb.mono KG.out.size))
  clear hb
  go_wp2_with fail
  have CT := Lib.hid (qparse_o (s := tb) w7 HTM)
  with_reducible refine CT.out.mono ?_
  rintro e w8 ⟨x9, rfl, hb⟩
  clear CT
  have BX1 := Lib.hid (BX1.out.below hb BX1.out.lt)
  have KG := Lib.hid (KG.out.trans (hb.mono KG.out.size))
  clear hb
  go_upto_region 5 with (fail)
  obtain ⟨v11, hV⟩ : ∃ V, V = w8.alloc (.cells #[.bool x9.t.s, .slice x9.t.a x9.t.n x9.t.c, .bool x9.l.s, .slice x9.l.a x9.l.n x9.l.c] 26) := ⟨_, rfl⟩
  have hbV : Below w8.heap.size w8 v11 := by rw [hV]; exact ((Below.refl _ _).alloc (Nat.le_refl _) _)
  have BX10 := Lib.hid (show Bxs v11 (w8.heap.size) 26 [.bool x9.t.s, .slice x9.t.a x9.t.n x9.t.c, .bool x9.l.s, .slice x9.l.a x9.l.n x9.l.c] by have h := Bxs.new (w8) 26 [.bool x9.t.s, .slice x9.t.a x9.t.n x9.t.c, .bool x9.l.s, .slice x9.l.a x9.l.n x9.l.c]; rw [hV]; exact h)
  rw [show w8.alloc (.cells #[.bool x9.t.s, .slice x9.t.a x9.t.n x9.t.c, .bool x9.l.s, .slice x9.l.a x9.l.n x9.l.c] 26) = v11 from hV.symm]
  have BX1 := Lib.hid (BX1.out.below hbV BX1.out.lt)
  have KG := Lib.hid (KG.out.trans (hbV.mono KG.out.size))
  clear hV hbV
  clear BX10
  have cBX10 := BX1.out.cell (i := 0) rfl
  have cBX11 := BX1.out.cell (i := 1) rfl
  have cBX12 := BX1.out.cell (i := 2) rfl
  have cBX13 := BX1.out.cell (i := 3) rfl
  have cBX1f := BX1.out.fz
  have cBX1l := BX1.out.lt
  go_wp2_with fail
  have CT := Lib.hid (qcheck (N1.out.below KG.out) (((N1.out.below KG.out)).len LQp1.out (by decide : _ ≤ 900000)))
  with_reducible refine CT.out.mono ?_
  rintro e w12 ⟨rfl, hb⟩
  clear CT
  clear cBX10 cBX11 cBX12 cBX13 cBX1f cBX1l
  have BX1 := Lib.hid (BX1.out.below hb BX1.out.lt)
  have KG := Lib.hid (KG.out.trans (hb.mono KG.out.size))
  clear hb
  have cBX10 := BX1.out.cell (i := 0) rfl
  have cBX11 := BX1.out.cell (i := 1) rfl
  have cBX12 := BX1.out.cell (i := 2) rfl
  have cBX13 := BX1.out.cell (i := 3) rfl
  have cBX1f := BX1.out.fz
  have cBX1l := BX1.out.lt
  go_wp2_with fail
  have CT := Lib.hid (qcheck (N1.out.below KG.out) (((N1.out.below KG.out)).len LQp1.out (by decide : _ ≤ 900000)))
  with_reducible refine CT.out.mono ?_
  rintro e w13 ⟨rfl, hb⟩
  clear CT
  clear cBX10 cBX11 cBX12 cBX13 cBX1f cBX1l
  clear BX1
  have KG := Lib.hid (KG.out.trans (hb.mono KG.out.size))
  clear hb
  go_wp2_with fail
  have CT := Lib.hid (qparse_z w13 HSM HC.out HQS.out.symm)
  with_reducible refine CT.out.mono ?_
  rintro e w14 ⟨x15, rfl, hN16, hb⟩
  have N16 := Lib.hid hN16
  clear hN16
  clear CT
  have KG := Lib.hid (KG.out.trans (hb.mono KG.out.size))
  clear hb
  go_upto_region 8 with (fail)
  obtain ⟨v18, hV⟩ : ∃ V, V = w14.alloc (.cells #[.bool x15.t.s, .slice x15.t.a x15.t.n x15.t.c, .bool x15.l.s, .slice x15.l.a x15.l.n x15.l.c] 26) := ⟨_, rfl⟩
  have hbV : Below w14.heap.size w14 v18 := by rw [hV]; exact ((Below.refl _ _).alloc (Nat.le_refl _) _)
  have BX17 := Lib.hid (show Bxs v18 (w14.heap.size) 26 [.bool x15.t.s, .slice x15.t.a x15.t.n x15.t.c, .bool x15.l.s, .slice x15.l.a x15.l.n x15.l.c] by have h := Bxs.new (w14) 26 [.bool x15.t.s, .slice x15.t.a x15.t.n x15.t.c, .bool x15.l.s, .slice x15.l.a x15.l.n x15.l.c]; rw [hV]; exact h)
  rw [show w14.alloc (.cells #[.bool x15.t.s, .slice x15.t.a x15.t.n x15.t.c, .bool x15.l.s, .slice x15.l.a x15.l.n x15.l.c] 26) = v18 from hV.symm]
  have N16 := Lib.hid (N16.out.below hbV)
  have KG := Lib.hid (KG.out.trans (hbV.mono KG.out.size))
  clear hV hbV
  have cBX170 := BX17.out.cell (i := 0) rfl
  have cBX171 := BX17.out.cell (i := 1) rfl
  have cBX172 := BX17.out.cell (i := 2) rfl
  have cBX173 := BX17.out.cell (i := 3) rfl
  have cBX17f := BX17.out.fz
  have cBX17l := BX17.out.lt
  go_wp2_with fail
  have CT := Lib.hid (qtextA x15 qs v18 (HT.out.on KG.out) (N16.out).k.any (((N16.out).k).len LQqs.out (by decide : _ ≤ 100)) (LQqs.out.up (by decide : _ ≤ 101)))
  rw [show (⟨(textQ qs).toArray⟩ : ByteArray) = ub from HUB.out.symm] at CT
  with_reducible refine CT.out.mono ?_
  rintro e w19 ⟨rfl, hb⟩
  clear CT
  clear cBX170 cBX171 cBX172 cBX173 cBX17f cBX17l
  have N16 := Lib.hid (N16.out.below hb)
  have BX17 := Lib.hid (BX17.out.below hb BX17.out.lt)
  have KG := Lib.hid (KG.out.trans (hb.mono KG.out.size))
  clear hb
  go_wp2_with fail
  have CT := Lib.hid (qparse_z w19 HUM HUF.out.1 HUF.out.2)
  with_reducible refine CT.out.mono ?_
  rintro e w20 ⟨x21, rfl, hN22, hb⟩
  have N22 := Lib.hid hN22
  clear hN22
  clear CT
  have N16 := Lib.hid (N16.out.below hb)
  have BX17 := Lib.hid (BX17.out.below hb BX17.out.lt)
  have KG := Lib.hid (KG.out.trans (hb.mono KG.out.size))
  clear hb
  go_upto_region 12 with (fail)
  obtain ⟨v24, hV⟩ : ∃ V, V = w20.alloc (.cells #[.bool x21.t.s, .slice x21.t.a x21.t.n x21.t.c, .bool x21.l.s, .slice x21.l.a x21.l.n x21.l.c] 26) := ⟨_, rfl⟩
  have hbV : Below w20.heap.size w20 v24 := by rw [hV]; exact ((Below.refl _ _).alloc (Nat.le_refl _) _)
  have BX23 := Lib.hid (show Bxs v24 (w20.heap.size) 26 [.bool x21.t.s, .slice x21.t.a x21.t.n x21.t.c, .bool x21.l.s, .slice x21.l.a x21.l.n x21.l.c] by have h := Bxs.new (w20) 26 [.bool x21.t.s, .slice x21.t.a x21.t.n x21.t.c, .bool x21.l.s, .slice x21.l.a x21.l.n x21.l.c]; rw [hV]; exact h)
  rw [show w20.alloc (.cells #[.bool x21.t.s, .slice x21.t.a x21.t.n x21.t.c, .bool x21.l.s, .slice x21.l.a x21.l.n x21.l.c] 26) = v24 from hV.symm]
  have N16 := Lib.hid (N16.out.below hbV)
  have N22 := Lib.hid (N22.out.below hbV)
  have BX17 := Lib.hid (BX17.out.below hbV BX17.out.lt)
  have KG := Lib.hid (KG.out.trans (hbV.mono KG.out.size))
  clear hV hbV
  have cBX170 := BX17.out.cell (i := 0) rfl
  have cBX171 := BX17.out.cell (i := 1) rfl
  have cBX172 := BX17.out.cell (i := 2) rfl
  have cBX173 := BX17.out.cell (i := 3) rfl
  have cBX17f := BX17.out.fz
  have cBX17l := BX17.out.lt
  go_wp2_with fail
  have CT := Lib.hid (qcheck (N16.out).k (((N16.out).k).len LQqs.out (by decide : _ ≤ 900000)))
  with_reducible refine CT.out.mono ?_
  rintro e w25 ⟨rfl, hb⟩
  clear CT
  clear cBX170 cBX171 cBX172 cBX173 cBX17f cBX17l
  have N16 := Lib.hid (N16.out.below hb)
  have N22 := Lib.hid (N22.out.below hb)
  have BX17 := Lib.hid (BX17.out.below hb BX17.out.lt)
  have BX23 := Lib.hid (BX23.out.below hb BX23.out.lt)
  have KG := Lib.hid (KG.out.trans (hb.mono KG.out.size))
  clear hb
  have cBX170 := BX17.out.cell (i := 0) rfl
  have cBX171 := BX17.out.cell (i := 1) rfl
  have cBX172 := BX17.out.cell (i := 2) rfl
  have cBX173 := BX17.out.cell (i := 3) rfl
  have cBX17f := BX17.out.fz
  have cBX17l := BX17.out.lt
  have cBX230 := BX23.out.cell (i := 0) rfl
  have cBX231 := BX23.out.cell (i := 1) rfl
  have cBX232 := BX23.out.cell (i := 2) rfl
  have cBX233 := BX23.out.cell (i := 3) rfl
  have cBX23f := BX23.out.fz
  have cBX23l := BX23.out.lt
  go_wp2_with fail
  have CT := Lib.hid (qsame (N16.out).k (((N16.out).k).len LQqs.out (by decide : _ ≤ 900000)) (N22.out).k (((N22.out).k).len LQqs.out (by decide : _ ≤ 900000)) (rfl))
  with_reducible refine CT.out.mono ?_
  rintro e w26 ⟨rfl, hb⟩
  clear CT
  clear cBX170 cBX171 cBX172 cBX173 cBX17f cBX17l
  clear cBX230 cBX231 cBX232 cBX233 cBX23f cBX23l
  clear N16
  have N22 := Lib.hid (N22.out.below hb)
  clear BX17
  have BX23 := Lib.hid (BX23.out.below hb BX23.out.lt)
  have KG := Lib.hid (KG.out.trans (hb.mono KG.out.size))
  clear hb
  have cBX230 := BX23.out.cell (i := 0) rfl
  have cBX231 := BX23.out.cell (i := 1) rfl
  have cBX232 := BX23.out.cell (i := 2) rfl
  have cBX233 := BX23.out.cell (i := 3) rfl
  have cBX23f := BX23.out.fz
  have cBX23l := BX23.out.lt
  go_wp2_with fail
  have CT := Lib.hid (qtextA x21 qs w26 (HT.out.on KG.out) (N22.out).k.any (((N22.out).k).len LQqs.out (by decide : _ ≤ 100)) (LQqs.out.up (by decide : _ ≤ 101)))
  rw [show (⟨(textQ qs).toArray⟩ : ByteArray) = ub from HUB.out.symm] at CT
  with_reducible refine CT.out.mono ?_
  rintro e w27 ⟨rfl, hb⟩
  clear CT
  clear cBX230 cBX231 cBX232 cBX233 cBX23f cBX23l
  clear N22
  clear BX23
  have KG := Lib.hid (KG.out.trans (hb.mono KG.out.size))
  clear hb
  go_wp2_with fail
  go_ret
  exact ⟨rfl, KG.out⟩
set_option maxRecDepth 100000 in
set_option maxHeartbeats 8000000 in
theorem read_over_c3 (x1 : FV) (p1 : Rat) (s : ByteArray) (w : World) (htab : Tab w) (h1 : KF w x1 p1) (b1 : LF x1 25) (hs : s.size ≤ 2000) (ht : 200 < (textQ p1).length) (hc : codeF s.data.toList = 3) : Calls Tryz.prog 4 #[x1.v, .string s] w fun e w' => e = .returned (.bool true) ∧ Below w.heap.size w w' := by
  have HT := Lib.hid htab
  have KG := Lib.hid (Below.refl w.heap.size w)
  have N1 := Lib.hid h1
  have Bx1 := Lib.hid b1
  have LQp1 := Lib.hid (h1.lq b1)
  have HS := Lib.hid hs
  have HSM : s.size ≤ 9223372036854775807 := by omega
  obtain ⟨tb, htb⟩ : ∃ t : ByteArray, t = ⟨(textQ p1).toArray⟩ := ⟨_, rfl⟩
  have HTB := Lib.hid htb
  have htl : tb.size = (textQ p1).length := by rw [htb]; exact tb_size _
  have HTM : tb.size ≤ 9223372036854775807 := by rw [htl]; have := textQ_len LQp1.out; omega
  have HTD := Lib.hid (show tb.data.toList = textQ p1 by rw [htb])
  have gt : ¬ ((tb.size : Int) ≤ 200) := by omega
  obtain ⟨ce, hce⟩ : ∃ c, c = codeF tb.data.toList := ⟨_, rfl⟩
  have HCE := Lib.hid hce
  have HC := Lib.hid hc
  clear hs htb htl ht hce hc
  clear htab h1 b1
  go_enter Tryz.func4, Tryz.ntmps4
  go_upto_region 1 with (fail)
  obtain ⟨v2, hV⟩ : ∃ V, V = w.alloc (.cells #[.bool x1.t.s, .slice x1.t.a x1.t.n x1.t.c, .bool x1.l.s, .slice x1.l.a x1.l.n x1.l.c] 26) := ⟨_, rfl⟩
  have hbV : Below w.heap.size w v2 := by rw [hV]; exact ((Below.refl _ _).alloc (Nat.le_refl _) _)
  have BX1 := Lib.hid (show Bxs v2 (w.heap.size) 26 [.bool x1.t.s, .slice x1.t.a x1.t.n x1.t.c, .bool x1.l.s, .slice x1.l.a x1.l.n x1.l.c] by have h := Bxs.new (w) 26 [.bool x1.t.s, .slice x1.t.a x1.t.n x1.t.c, .bool x1.l.s, .slice x1.l.a x1.l.n x1.l.c]; rw [hV]; exact h)
  rw [show w.alloc (.cells #[.bool x1.t.s, .slice x1.t.a x1.t.n x1.t.c, .bool x1.l.s, .slice x1.l.a x1.l.n x1.l.c] 26) = v2 from hV.symm]
  have KG := Lib.hid (KG.out.trans (hbV.mono KG.out.size))
  clear hV hbV
  have gs : ¬ ((s.size : Int) > 2000) := by have := HS.out; omega
  go_wp2_with fail
  have CT := Lib.hid (qalive v2 (HT.out.on KG.out))
  with_reducible refine CT.out.mono ?_
  rintro e w3 ⟨rfl, hb⟩
  clear CT
  have BX1 := Lib.hid (BX1.out.below hb BX1.out.lt)
  have KG := Lib.hid (KG.out.trans (hb.mono KG.out.size))
  clear hb
  have cBX10 := BX1.out.cell (i := 0) rfl
  have cBX11 := BX1.out.cell (i := 1) rfl
  have cBX12 := BX1.out.cell (i := 2) rfl
  have cBX13 := BX1.out.cell (i := 3) rfl
  have cBX1f := BX1.out.fz
  have cBX1l := BX1.out.lt
  go_wp2_with fail
  clear cBX10 cBX11 cBX12 cBX13 cBX1f cBX1l
  obtain ⟨v5, hV⟩ : ∃ V, V = w3.alloc (.cells #[.bool x1.t.s, .slice x1.t.a x1.t.n x1.t.c, .bool x1.l.s, .slice x1.l.a x1.l.n x1.l.c] 26) := ⟨_, rfl⟩
  have hbV : Below w3.heap.size w3 v5 := by rw [hV]; exact ((Below.refl _ _).alloc (Nat.le_refl _) _)
  have BX4 := Lib.hid (show Bxs v5 (w3.heap.size) 26 [.bool x1.t.s, .slice x1.t.a x1.t.n x1.t.c, .bool x1.l.s, .slice x1.l.a x1.l.n x1.l.c] by have h := Bxs.new (w3) 26 [.bool x1.t.s, .slice x1.t.a x1.t.n x1.t.c, .bool x1.l.s, .slice x1.l.a x1.l.n x1.l.c]; rw [hV]; exact h)
  rw [show w3.alloc (.cells #[.bool x1.t.s, .slice x1.t.a x1.t.n x1.t.c, .bool x1.l.s, .slice x1.l.a x1.l.n x1.l.c] 26) = v5 from hV.symm]
  have BX1 := Lib.hid (BX1.out.below hbV BX1.out.lt)
  have KG := Lib.hid (KG.out.trans (hbV.mono KG.out.size))
  clear hV hbV
  have cBX10 := BX1.out.cell (i := 0) rfl
  have cBX11 := BX1.out.cell (i := 1) rfl
  have cBX12 := BX1.out.cell (i := 2) rfl
  have cBX13 := BX1.out.cell (i := 3) rfl
  have cBX1f := BX1.out.fz
  have cBX1l := BX1.out.lt
  have CT := Lib.hid (qgreat1 (M := 25) BX4.out)
  rw [show ((25 : Nat) : Int) = 25 from rfl, show decide ((25 < x1.t.n ∨ 25 < x1.l.n)) = false from decide_eq_false (by have g0 := (((N1.out.below KG.out)).len LQp1.out (by decide : _ ≤ 25)); omega)] at CT
  with_reducible refine CT.out.mono ?_
  rintro e w6 ⟨rfl, hb⟩
  clear CT
  clear cBX10 cBX11 cBX12 cBX13 cBX1f cBX1l
  have BX1 := Lib.hid (BX1.out.below hb BX1.out.lt)
  clear BX4
  have KG := Lib.hid (KG.out.trans (hb.mono KG.out.size))
  clear hb
  have cBX10 := BX1.out.cell (i := 0) rfl
  have cBX11 := BX1.out.cell (i := 1) rfl
  have cBX12 := BX1.out.cell (i := 2) rfl
  have cBX13 := BX1.out.cell (i := 3) rfl
  have cBX1f := BX1.out.fz
  have cBX1l := BX1.out.lt
  go_wp2_with fail
  have CT := Lib.hid (qtextA x1 p1 w6 (HT.out.on KG.out) ((N1.out.below KG.out)).any (((N1.out.below KG.out)).len LQp1.out (by decide : _ ≤ 100)) (LQp1.out.up (by decide : _ ≤ 101)))
  rw [show (⟨(textQ p1).toArray⟩ : ByteArray) = tb from HTB.out.symm] at CT
  with_reducible refine CT.out.mono ?_
  rintro e w7 ⟨rfl, hb⟩
  clear CT
  clear cBX10 cBX11 cBX12 cBX13 cBX1f cBX1l
  have BX1 := Lib.hid (BX1.out.below hb BX1.out.lt)
  have KG := Lib.hid (KG.out.trans (hb.mono KG.out.size))
  clear hb
  go_wp2_with fail
  have CT := Lib.hid (qparse_o (s := tb) w7 HTM)
  with_reducible refine CT.out.mono ?_
  rintro e w8 ⟨x9, rfl, hb⟩
  clear CT
  have BX1 := Lib.hid (BX1.out.below hb BX1.out.lt)
  have KG := Lib.hid (KG.out.trans (hb.mono KG.out.size))
  clear hb
  go_upto_region 5 with (fail)
  obtain ⟨v11, hV⟩ : ∃ V, V = w8.alloc (.cells #[.bool x9.t.s, .slice x9.t.a x9.t.n x9.t.c, .bool x9.l.s, .slice x9.l.a x9.l.n x9.l.c] 26) := ⟨_, rfl⟩
  have hbV : Below w8.heap.size w8 v11 := by rw [hV]; exact ((Below.refl _ _).alloc (Nat.le_refl _) _)
  have BX10 := Lib.hid (show Bxs v11 (w8.heap.size) 26 [.bool x9.t.s, .slice x9.t.a x9.t.n x9.t.c, .bool x9.l.s, .slice x9.l.a x9.l.n x9.l.c] by have h := Bxs.new (w8) 26 [.bool x9.t.s, .slice x9.t.a x9.t.n x9.t.c, .bool x9.l.s, .slice x9.l.a x9.l.n x9.l.c]; rw [hV]; exact h)
  rw [show w8.alloc (.cells #[.bool x9.t.s, .slice x9.t.a x9.t.n x9.t.c, .bool x9.l.s, .slice x9.l.a x9.l.n x9.l.c] 26) = v11 from hV.symm]
  have BX1 := Lib.hid (BX1.out.below hbV BX1.out.lt)
  have KG := Lib.hid (KG.out.trans (hbV.mono KG.out.size))
  clear hV hbV
  clear BX10
  have cBX10 := BX1.out.cell (i := 0) rfl
  have cBX11 := BX1.out.cell (i := 1) rfl
  have cBX12 := BX1.out.cell (i := 2) rfl
  have cBX13 := BX1.out.cell (i := 3) rfl
  have cBX1f := BX1.out.fz
  have cBX1l := BX1.out.lt
  go_wp2_with fail
  have CT := Lib.hid (qcheck (N1.out.below KG.out) (((N1.out.below KG.out)).len LQp1.out (by decide : _ ≤ 900000)))
  with_reducible refine CT.out.mono ?_
  rintro e w12 ⟨rfl, hb⟩
  clear CT
  clear cBX10 cBX11 cBX12 cBX13 cBX1f cBX1l
  have BX1 := Lib.hid (BX1.out.below hb BX1.out.lt)
  have KG := Lib.hid (KG.out.trans (hb.mono KG.out.size))
  clear hb
  have cBX10 := BX1.out.cell (i := 0) rfl
  have cBX11 := BX1.out.cell (i := 1) rfl
  have cBX12 := BX1.out.cell (i := 2) rfl
  have cBX13 := BX1.out.cell (i := 3) rfl
  have cBX1f := BX1.out.fz
  have cBX1l := BX1.out.lt
  go_wp2_with fail
  have CT := Lib.hid (qcheck (N1.out.below KG.out) (((N1.out.below KG.out)).len LQp1.out (by decide : _ ≤ 900000)))
  with_reducible refine CT.out.mono ?_
  rintro e w13 ⟨rfl, hb⟩
  clear CT
  clear cBX10 cBX11 cBX12 cBX13 cBX1f cBX1l
  clear BX1
  have KG := Lib.hid (KG.out.trans (hb.mono KG.out.size))
  clear hb
  go_wp2_with fail
  have CT := Lib.hid (qparse_c w13 HSM HC.out (by decide))
  with_reducible refine CT.out.mono ?_
  rintro e w14 ⟨rfl, hb⟩
  clear CT
  have KG := Lib.hid (KG.out.trans (hb.mono KG.out.size))
  clear hb
  go_upto_region 8 with (fail)
  obtain ⟨v16, hV⟩ : ∃ V, V = w14.alloc (.cells #[.bool false, .slice none 0 0, .bool false, .slice none 0 0] 26) := ⟨_, rfl⟩
  have hbV : Below w14.heap.size w14 v16 := by rw [hV]; exact ((Below.refl _ _).alloc (Nat.le_refl _) _)
  have BX15 := Lib.hid (show Bxs v16 (w14.heap.size) 26 [.bool false, .slice none 0 0, .bool false, .slice none 0 0] by have h := Bxs.new (w14) 26 [.bool false, .slice none 0 0, .bool false, .slice none 0 0]; rw [hV]; exact h)
  rw [show w14.alloc (.cells #[.bool false, .slice none 0 0, .bool false, .slice none 0 0] 26) = v16 from hV.symm]
  have KG := Lib.hid (KG.out.trans (hbV.mono KG.out.size))
  clear hV hbV
  have cBX150 := BX15.out.cell (i := 0) rfl
  have cBX151 := BX15.out.cell (i := 1) rfl
  have cBX152 := BX15.out.cell (i := 2) rfl
  have cBX153 := BX15.out.cell (i := 3) rfl
  have cBX15f := BX15.out.fz
  have cBX15l := BX15.out.lt
  go_wp2_with fail
  go_ret
  exact ⟨rfl, KG.out⟩
set_option maxRecDepth 100000 in
set_option maxHeartbeats 8000000 in
theorem read_over_c4 (x1 : FV) (p1 : Rat) (s : ByteArray) (w : World) (htab : Tab w) (h1 : KF w x1 p1) (b1 : LF x1 25) (hs : s.size ≤ 2000) (ht : 200 < (textQ p1).length) (hc : codeF s.data.toList = 4) : Calls Tryz.prog 4 #[x1.v, .string s] w fun e w' => e = .returned (.bool true) ∧ Below w.heap.size w w' := by
  have HT := Lib.hid htab
  have KG := Lib.hid (Below.refl w.heap.size w)
  have N1 := Lib.hid h1
  have Bx1 := Lib.hid b1
  have LQp1 := Lib.hid (h1.lq b1)
  have HS := Lib.hid hs
  have HSM : s.size ≤ 9223372036854775807 := by omega
  obtain ⟨tb, htb⟩ : ∃ t : ByteArray, t = ⟨(textQ p1).toArray⟩ := ⟨_, rfl⟩
  have HTB := Lib.hid htb
  have htl : tb.size = (textQ p1).length := by rw [htb]; exact tb_size _
  have HTM : tb.size ≤ 9223372036854775807 := by rw [htl]; have := textQ_len LQp1.out; omega
  have HTD := Lib.hid (show tb.data.toList = textQ p1 by rw [htb])
  have gt : ¬ ((tb.size : Int) ≤ 200) := by omega
  obtain ⟨ce, hce⟩ : ∃ c, c = codeF tb.data.toList := ⟨_, rfl⟩
  have HCE := Lib.hid hce
  have HC := Lib.hid hc
  clear hs htb htl ht hce hc
  clear htab h1 b1
  go_enter Tryz.func4, Tryz.ntmps4
  go_upto_region 1 with (fail)
  obtain ⟨v2, hV⟩ : ∃ V, V = w.alloc (.cells #[.bool x1.t.s, .slice x1.t.a x1.t.n x1.t.c, .bool x1.l.s, .slice x1.l.a x1.l.n x1.l.c] 26) := ⟨_, rfl⟩
  have hbV : Below w.heap.size w v2 := by rw [hV]; exact ((Below.refl _ _).alloc (Nat.le_refl _) _)
  have BX1 := Lib.hid (show Bxs v2 (w.heap.size) 26 [.bool x1.t.s, .slice x1.t.a x1.t.n x1.t.c, .bool x1.l.s, .slice x1.l.a x1.l.n x1.l.c] by have h := Bxs.new (w) 26 [.bool x1.t.s, .slice x1.t.a x1.t.n x1.t.c, .bool x1.l.s, .slice x1.l.a x1.l.n x1.l.c]; rw [hV]; exact h)
  rw [show w.alloc (.cells #[.bool x1.t.s, .slice x1.t.a x1.t.n x1.t.c, .bool x1.l.s, .slice x1.l.a x1.l.n x1.l.c] 26) = v2 from hV.symm]
  have KG := Lib.hid (KG.out.trans (hbV.mono KG.out.size))
  clear hV hbV
  have gs : ¬ ((s.size : Int) > 2000) := by have := HS.out; omega
  go_wp2_with fail
  have CT := Lib.hid (qalive v2 (HT.out.on KG.out))
  with_reducible refine CT.out.mono ?_
  rintro e w3 ⟨rfl, hb⟩
  clear CT
  have BX1 := Lib.hid (BX1.out.below hb BX1.out.lt)
  have KG := Lib.hid (KG.out.trans (hb.mono KG.out.size))
  clear hb
  have cBX10 := BX1.out.cell (i := 0) rfl
  have cBX11 := BX1.out.cell (i := 1) rfl
  have cBX12 := BX1.out.cell (i := 2) rfl
  have cBX13 := BX1.out.cell (i := 3) rfl
  have cBX1f := BX1.out.fz
  have cBX1l := BX1.out.lt
  go_wp2_with fail
  clear cBX10 cBX11 cBX12 cBX13 cBX1f cBX1l
  obtain ⟨v5, hV⟩ : ∃ V, V = w3.alloc (.cells #[.bool x1.t.s, .slice x1.t.a x1.t.n x1.t.c, .bool x1.l.s, .slice x1.l.a x1.l.n x1.l.c] 26) := ⟨_, rfl⟩
  have hbV : Below w3.heap.size w3 v5 := by rw [hV]; exact ((Below.refl _ _).alloc (Nat.le_refl _) _)
  have BX4 := Lib.hid (show Bxs v5 (w3.heap.size) 26 [.bool x1.t.s, .slice x1.t.a x1.t.n x1.t.c, .bool x1.l.s, .slice x1.l.a x1.l.n x1.l.c] by have h := Bxs.new (w3) 26 [.bool x1.t.s, .slice x1.t.a x1.t.n x1.t.c, .bool x1.l.s, .slice x1.l.a x1.l.n x1.l.c]; rw [hV]; exact h)
  rw [show w3.alloc (.cells #[.bool x1.t.s, .slice x1.t.a x1.t.n x1.t.c, .bool x1.l.s, .slice x1.l.a x1.l.n x1.l.c] 26) = v5 from hV.symm]
  have BX1 := Lib.hid (BX1.out.below hbV BX1.out.lt)
  have KG := Lib.hid (KG.out.trans (hbV.mono KG.out.size))
  clear hV hbV
  have cBX10 := BX1.out.cell (i := 0) rfl
  have cBX11 := BX1.out.cell (i := 1) rfl
  have cBX12 := BX1.out.cell (i := 2) rfl
  have cBX13 := BX1.out.cell (i := 3) rfl
  have cBX1f := BX1.out.fz
  have cBX1l := BX1.out.lt
  have CT := Lib.hid (qgreat1 (M := 25) BX4.out)
  rw [show ((25 : Nat) : Int) = 25 from rfl, show decide ((25 < x1.t.n ∨ 25 < x1.l.n)) = false from decide_eq_false (by have g0 := (((N1.out.below KG.out)).len LQp1.out (by decide : _ ≤ 25)); omega)] at CT
  with_reducible refine CT.out.mono ?_
  rintro e w6 ⟨rfl, hb⟩
  clear CT
  clear cBX10 cBX11 cBX12 cBX13 cBX1f cBX1l
  have BX1 := Lib.hid (BX1.out.below hb BX1.out.lt)
  clear BX4
  have KG := Lib.hid (KG.out.trans (hb.mono KG.out.size))
  clear hb
  have cBX10 := BX1.out.cell (i := 0) rfl
  have cBX11 := BX1.out.cell (i := 1) rfl
  have cBX12 := BX1.out.cell (i := 2) rfl
  have cBX13 := BX1.out.cell (i := 3) rfl
  have cBX1f := BX1.out.fz
  have cBX1l := BX1.out.lt
  go_wp2_with fail
  have CT := Lib.hid (qtextA x1 p1 w6 (HT.out.on KG.out) ((N1.out.below KG.out)).any (((N1.out.below KG.out)).len LQp1.out (by decide : _ ≤ 100)) (LQp1.out.up (by decide : _ ≤ 101)))
  rw [show (⟨(textQ p1).toArray⟩ : ByteArray) = tb from HTB.out.symm] at CT
  with_reducible refine CT.out.mono ?_
  rintro e w7 ⟨rfl, hb⟩
  clear CT
  clear cBX10 cBX11 cBX12 cBX13 cBX1f cBX1l
  have BX1 := Lib.hid (BX1.out.below hb BX1.out.lt)
  have KG := Lib.hid (KG.out.trans (hb.mono KG.out.size))
  clear hb
  go_wp2_with fail
  have CT := Lib.hid (qparse_o (s := tb) w7 HTM)
  with_reducible refine CT.out.mono ?_
  rintro e w8 ⟨x9, rfl, hb⟩
  clear CT
  have BX1 := Lib.hid (BX1.out.below hb BX1.out.lt)
  have KG := Lib.hid (KG.out.trans (hb.mono KG.out.size))
  clear hb
  go_upto_region 5 with (fail)
  obtain ⟨v11, hV⟩ : ∃ V, V = w8.alloc (.cells #[.bool x9.t.s, .slice x9.t.a x9.t.n x9.t.c, .bool x9.l.s, .slice x9.l.a x9.l.n x9.l.c] 26) := ⟨_, rfl⟩
  have hbV : Below w8.heap.size w8 v11 := by rw [hV]; exact ((Below.refl _ _).alloc (Nat.le_refl _) _)
  have BX10 := Lib.hid (show Bxs v11 (w8.heap.size) 26 [.bool x9.t.s, .slice x9.t.a x9.t.n x9.t.c, .bool x9.l.s, .slice x9.l.a x9.l.n x9.l.c] by have h := Bxs.new (w8) 26 [.bool x9.t.s, .slice x9.t.a x9.t.n x9.t.c, .bool x9.l.s, .slice x9.l.a x9.l.n x9.l.c]; rw [hV]; exact h)
  rw [show w8.alloc (.cells #[.bool x9.t.s, .slice x9.t.a x9.t.n x9.t.c, .bool x9.l.s, .slice x9.l.a x9.l.n x9.l.c] 26) = v11 from hV.symm]
  have BX1 := Lib.hid (BX1.out.below hbV BX1.out.lt)
  have KG := Lib.hid (KG.out.trans (hbV.mono KG.out.size))
  clear hV hbV
  clear BX10
  have cBX10 := BX1.out.cell (i := 0) rfl
  have cBX11 := BX1.out.cell (i := 1) rfl
  have cBX12 := BX1.out.cell (i := 2) rfl
  have cBX13 := BX1.out.cell (i := 3) rfl
  have cBX1f := BX1.out.fz
  have cBX1l := BX1.out.lt
  go_wp2_with fail
  have CT := Lib.hid (qcheck (N1.out.below KG.out) (((N1.out.below KG.out)).len LQp1.out (by decide : _ ≤ 900000)))
  with_reducible refine CT.out.mono ?_
  rintro e w12 ⟨rfl, hb⟩
  clear CT
  clear cBX10 cBX11 cBX12 cBX13 cBX1f cBX1l
  have BX1 := Lib.hid (BX1.out.below hb BX1.out.lt)
  have KG := Lib.hid (KG.out.trans (hb.mono KG.out.size))
  clear hb
  have cBX10 := BX1.out.cell (i := 0) rfl
  have cBX11 := BX1.out.cell (i := 1) rfl
  have cBX12 := BX1.out.cell (i := 2) rfl
  have cBX13 := BX1.out.cell (i := 3) rfl
  have cBX1f := BX1.out.fz
  have cBX1l := BX1.out.lt
  go_wp2_with fail
  have CT := Lib.hid (qcheck (N1.out.below KG.out) (((N1.out.below KG.out)).len LQp1.out (by decide : _ ≤ 900000)))
  with_reducible refine CT.out.mono ?_
  rintro e w13 ⟨rfl, hb⟩
  clear CT
  clear cBX10 cBX11 cBX12 cBX13 cBX1f cBX1l
  clear BX1
  have KG := Lib.hid (KG.out.trans (hb.mono KG.out.size))
  clear hb
  go_wp2_with fail
  have CT := Lib.hid (qparse_c w13 HSM HC.out (by decide))
  with_reducible refine CT.out.mono ?_
  rintro e w14 ⟨rfl, hb⟩
  clear CT
  have KG := Lib.hid (KG.out.trans (hb.mono KG.out.size))
  clear hb
  go_upto_region 8 with (fail)
  obtain ⟨v16, hV⟩ : ∃ V, V = w14.alloc (.cells #[.bool false, .slice none 0 0, .bool false, .slice none 0 0] 26) := ⟨_, rfl⟩
  have hbV : Below w14.heap.size w14 v16 := by rw [hV]; exact ((Below.refl _ _).alloc (Nat.le_refl _) _)
  have BX15 := Lib.hid (show Bxs v16 (w14.heap.size) 26 [.bool false, .slice none 0 0, .bool false, .slice none 0 0] by have h := Bxs.new (w14) 26 [.bool false, .slice none 0 0, .bool false, .slice none 0 0]; rw [hV]; exact h)
  rw [show w14.alloc (.cells #[.bool false, .slice none 0 0, .bool false, .slice none 0 0] 26) = v16 from hV.symm]
  have KG := Lib.hid (KG.out.trans (hbV.mono KG.out.size))
  clear hV hbV
  have cBX150 := BX15.out.cell (i := 0) rfl
  have cBX151 := BX15.out.cell (i := 1) rfl
  have cBX152 := BX15.out.cell (i := 2) rfl
  have cBX153 := BX15.out.cell (i := 3) rfl
  have cBX15f := BX15.out.fz
  have cBX15l := BX15.out.lt
  go_wp2_with fail
  go_ret
  exact ⟨rfl, KG.out⟩
theorem fracsRead_law (s1 : Bool) (a1 : Option Addr) (n1 c1 : Nat) (o1 : Nat → Int) (s2 : Bool) (a2 : Option Addr) (n2 c2 : Nat) (o2 : Nat → Int) (t : ByteArray) (w : World) (htab : Tab w) (h1 : Rd w a1 n1 o1) (hc1 : n1 ≤ c1) (h2 : Rd w a2 n2 o2) (hc2 : n2 ≤ c2) (_ : t.size ≤ 9223372036854775807) :
    Calls Tryz.prog 4 #[.agg #[.bool s1, .slice a1 n1 c1, .bool s2, .slice a2 n2 c2], .string t] w fun e w' => e = .returned (.bool true) ∧ Below w.heap.size w w' := by
  by_cases hg : (25 < n1 ∨ 25 < n2)
  · exact read_great ⟨⟨s1, a1, n1, c1⟩, ⟨s2, a2, n2, c2⟩⟩ _ t w htab (AF.raw h1 hc1 h2 hc2) hg
  have b1 : n1 ≤ 25 ∧ n2 ≤ 25 := by omega
  by_cases hs : 2000 < t.size
  · exact read_long ⟨⟨s1, a1, n1, c1⟩, ⟨s2, a2, n2, c2⟩⟩ _ t w htab (AF.raw h1 hc1 h2 hc2) b1 hs
  have hs' : t.size ≤ 2000 := by omega
  have key : ∀ (x : FV) (q : Rat), True := fun _ _ => trivial
  by_cases k1 : okF s1 n1 o1 s2 n2 o2
  · by_cases ht : (textQ (valF s1 n1 o1 s2 n2 o2)).length ≤ 200
    · rcases codeF_cases t.data.toList with hc | hc | hc
      · exact read_short_z ⟨⟨s1, a1, n1, c1⟩, ⟨s2, a2, n2, c2⟩⟩ _ t w htab (KF.raw h1 hc1 h2 hc2 k1) b1 hs' ht hc
      · exact read_short_c3 ⟨⟨s1, a1, n1, c1⟩, ⟨s2, a2, n2, c2⟩⟩ _ t w htab (KF.raw h1 hc1 h2 hc2 k1) b1 hs' ht hc
      · exact read_short_c4 ⟨⟨s1, a1, n1, c1⟩, ⟨s2, a2, n2, c2⟩⟩ _ t w htab (KF.raw h1 hc1 h2 hc2 k1) b1 hs' ht hc
    · rcases codeF_cases t.data.toList with hc | hc | hc
      · exact read_over_z ⟨⟨s1, a1, n1, c1⟩, ⟨s2, a2, n2, c2⟩⟩ _ t w htab (KF.raw h1 hc1 h2 hc2 k1) b1 hs' (by omega) hc
      · exact read_over_c3 ⟨⟨s1, a1, n1, c1⟩, ⟨s2, a2, n2, c2⟩⟩ _ t w htab (KF.raw h1 hc1 h2 hc2 k1) b1 hs' (by omega) hc
      · exact read_over_c4 ⟨⟨s1, a1, n1, c1⟩, ⟨s2, a2, n2, c2⟩⟩ _ t w htab (KF.raw h1 hc1 h2 hc2 k1) b1 hs' (by omega) hc
  · rcases codeF_cases t.data.toList with hc | hc | hc
    · exact read_bad_z ⟨⟨s1, a1, n1, c1⟩, ⟨s2, a2, n2, c2⟩⟩ 0 t w htab (BF.raw h1 hc1 h2 hc2 k1) b1 hs' hc
    · exact read_bad_c3 ⟨⟨s1, a1, n1, c1⟩, ⟨s2, a2, n2, c2⟩⟩ 0 t w htab (BF.raw h1 hc1 h2 hc2 k1) b1 hs' hc
    · exact read_bad_c4 ⟨⟨s1, a1, n1, c1⟩, ⟨s2, a2, n2, c2⟩⟩ 0 t w htab (BF.raw h1 hc1 h2 hc2 k1) b1 hs' hc
end Go.Proofs.YtklidpbdgliemaaGreatDoor.Limb
