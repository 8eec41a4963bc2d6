/-
  Whether any fraction may be, is whole, and its text, are the documented ones; so is the fraction of any text, or it is refused; the fraction stays as it was, answers are memory of their own.
-/
import Derived.Test.YtklidpbdgliemaaGreatDoorQwL
set_option linter.unusedSimpArgs false
set_option linter.unusedVariables false
namespace Go.Proofs.YtklidpbdgliemaaGreatDoor.Limb
open Go.RowKit Go.Sort
theorem qtextA' (x1 : FV) (p1 : Rat) (w : World) (htab : Tab w) (h1 : AF w x1 p1) (b1 : LF x1 100) (lq : LQ p1 101) : Calls Tryz.prog 18 #[x1.v] w fun e w' => e = .returned (.string ⟨(textQ p1).toArray⟩) ∧ Below w.heap.size w w' := by
  by_cases h : (p1.den : Int) = 1
  · exact qtext_one x1 p1 w htab h1 b1 lq h
  · exact qtext_two x1 p1 w htab h1 b1 lq h
theorem rq_z {s : ByteArray} (w : World) (hs : s.size ≤ 9223372036854775806) {q : Rat} (h : codeF s.data.toList = 0) (hq : ratF s.data.toList = q) : Calls Tryz.prog 13 #[.string s] w (RKE w q) := by
  have g := rq_any s.data.toList w (by rw [Array.length_toList]; exact hs)
  exact g.mono fun _ _ hr => hr.elim (fun h2 => by rw [← hq]; exact h2.2) (fun h2 => absurd h h2.1)
theorem rq_c {s : ByteArray} (w : World) (hs : s.size ≤ 9223372036854775806) {c : Int} (h : codeF s.data.toList = c) (hc : c ≠ 0) : Calls Tryz.prog 13 #[.string s] w (RFX w c) := by
  have g := rq_any s.data.toList w (by rw [Array.length_toList]; exact hs)
  exact g.mono fun _ _ hr => hr.elim (fun h2 => absurd h2.1 (by rw [h]; exact hc)) (fun h2 => by rw [← h]; exact h2.2)
theorem qsame0 (w : World) : Calls Tryz.prog 20 #[NOF, NOF] w fun e w' => e = .returned (.bool true) ∧ Below w.heap.size w w' :=
  sameFrac_any false none none 0 0 0 (fun _ => 0) false none none 0 0 0 (fun _ => 0) w (Rd.nil w none _) (Rd.nil w none _) (by omega) (Rd.nil w none _) (Rd.nil w none _) (by omega)
theorem own0 {w : World} {b : Nat} : Own 80 w b none 0 0 (fun _ => 0) := ⟨Nat.le_refl _, Or.inl ⟨rfl, rfl, rfl⟩, fun i h => absurd h (Nat.not_lt_zero i)⟩
set_option maxRecDepth 100000 in
set_option maxHeartbeats 8000000 in
theorem texts_great (x1 : FV) (o1 o2 : Nat → Int) (s : ByteArray) (w : World) (htab : Tab w) (hr1 : Rd w x1.t.a x1.t.n o1) (l1 : x1.t.n ≤ x1.t.c) (hr2 : Rd w x1.l.a x1.l.n o2) (l2 : x1.l.n ≤ x1.l.c) (hg : 25 < x1.t.n ∨ 25 < x1.l.n) : Calls Tryz.prog 3 #[x1.v, .string s] w fun e w' => e = .returned (.bool true) ∧ Below w.heap.size w w' := by
  have HT := Lib.hid htab
  have KG := Lib.hid (Below.refl w.heap.size w)
  have HR1 := Lib.hid hr1
  have HR2 := Lib.hid hr2
  have N1 := Lib.hid (AF.raw (s1 := x1.t.s) (s2 := x1.l.s) hr1 l1 hr2 l2)
  have HG := Lib.hid hg
  clear htab hr1 hr2 l1 l2 hg
  go_enter Tryz.func3, Tryz.ntmps3
  go_upto_region 1 with (fail)
  obtain ⟨v2, hV⟩ : ∃ V, V = w.alloc (.cells #[.bool x1.t.s, .slice x1.t.a x1.t.n x1.t.c, .bool x1.l.s, .slice x1.l.a x1.l.n x1.l.c] 26) := ⟨_, rfl⟩
  have hbV : Below w.heap.size w v2 := by rw [hV]; exact ((Below.refl _ _).alloc (Nat.le_refl _) _)
  have BX1 := Lib.hid (show Bxs v2 (w.heap.size) 26 [.bool x1.t.s, .slice x1.t.a x1.t.n x1.t.c, .bool x1.l.s, .slice x1.l.a x1.l.n x1.l.c] by have h := Bxs.new (w) 26 [.bool x1.t.s, .slice x1.t.a x1.t.n x1.t.c, .bool x1.l.s, .slice x1.l.a x1.l.n x1.l.c]; rw [hV]; exact h)
  rw [show w.alloc (.cells #[.bool x1.t.s, .slice x1.t.a x1.t.n x1.t.c, .bool x1.l.s, .slice x1.l.a x1.l.n x1.l.c] 26) = v2 from hV.symm]
  have KG := Lib.hid (KG.out.trans (hbV.mono KG.out.size))
  clear hV hbV
  have cBX10 := BX1.out.cell (i := 0) rfl
  have cBX11 := BX1.out.cell (i := 1) rfl
  have cBX12 := BX1.out.cell (i := 2) rfl
  have cBX13 := BX1.out.cell (i := 3) rfl
  have cBX1f := BX1.out.fz
  have cBX1l := BX1.out.lt
  go_wp2_with fail
  clear cBX10 cBX11 cBX12 cBX13 cBX1f cBX1l
  obtain ⟨v4, hV⟩ : ∃ V, V = v2.alloc (.cells #[.bool x1.t.s, .slice x1.t.a x1.t.n x1.t.c, .bool x1.l.s, .slice x1.l.a x1.l.n x1.l.c] 26) := ⟨_, rfl⟩
  have hbV : Below v2.heap.size v2 v4 := by rw [hV]; exact ((Below.refl _ _).alloc (Nat.le_refl _) _)
  have BX3 := Lib.hid (show Bxs v4 (v2.heap.size) 26 [.bool x1.t.s, .slice x1.t.a x1.t.n x1.t.c, .bool x1.l.s, .slice x1.l.a x1.l.n x1.l.c] by have h := Bxs.new (v2) 26 [.bool x1.t.s, .slice x1.t.a x1.t.n x1.t.c, .bool x1.l.s, .slice x1.l.a x1.l.n x1.l.c]; rw [hV]; exact h)
  rw [show v2.alloc (.cells #[.bool x1.t.s, .slice x1.t.a x1.t.n x1.t.c, .bool x1.l.s, .slice x1.l.a x1.l.n x1.l.c] 26) = v4 from hV.symm]
  have BX1 := Lib.hid (BX1.out.below hbV BX1.out.lt)
  have KG := Lib.hid (KG.out.trans (hbV.mono KG.out.size))
  clear hV hbV
  have cBX10 := BX1.out.cell (i := 0) rfl
  have cBX11 := BX1.out.cell (i := 1) rfl
  have cBX12 := BX1.out.cell (i := 2) rfl
  have cBX13 := BX1.out.cell (i := 3) rfl
  have cBX1f := BX1.out.fz
  have cBX1l := BX1.out.lt
  have CT := Lib.hid (qgreat1 (M := 25) BX3.out)
  rw [show ((25 : Nat) : Int) = 25 from rfl, show decide ((25 < x1.t.n ∨ 25 < x1.l.n)) = true from decide_eq_true HG.out] at CT
  with_reducible refine CT.out.mono ?_
  rintro e w5 ⟨rfl, hb⟩
  clear CT
  clear cBX10 cBX11 cBX12 cBX13 cBX1f cBX1l
  clear BX1
  clear BX3
  have KG := Lib.hid (KG.out.trans (hb.mono KG.out.size))
  clear hb
  go_wp2_with fail
  go_ret
  exact ⟨rfl, KG.out⟩
set_option maxRecDepth 100000 in
set_option maxHeartbeats 8000000 in
theorem texts_long_ok (x1 : FV) (o1 o2 : Nat → Int) (s : ByteArray) (w : World) (htab : Tab w) (hr1 : Rd w x1.t.a x1.t.n o1) (l1 : x1.t.n ≤ x1.t.c) (hr2 : Rd w x1.l.a x1.l.n o2) (l2 : x1.l.n ≤ x1.l.c) (b1 : LF x1 25) (hk : okF x1.t.s x1.t.n o1 x1.l.s x1.l.n o2) (hs : 2000 < s.size) : Calls Tryz.prog 3 #[x1.v, .string s] w fun e w' => e = .returned (.bool true) ∧ Below w.heap.size w w' := by
  have HT := Lib.hid htab
  have KG := Lib.hid (Below.refl w.heap.size w)
  have HR1 := Lib.hid hr1
  have HR2 := Lib.hid hr2
  have Bx1 := Lib.hid b1
  have HOK := Lib.hid hk
  obtain ⟨p1, hp1⟩ : ∃ q, q = valF x1.t.s x1.t.n o1 x1.l.s x1.l.n o2 := ⟨_, rfl⟩
  have HP1 := Lib.hid hp1
  have N1 := Lib.hid (show KF w x1 p1 by rw [hp1]; exact KF.raw hr1 l1 hr2 l2 hk)
  have LQp1 := Lib.hid (N1.out.lq b1)
  obtain ⟨vd, hvd⟩ : ∃ b, b = decide ((p1.den : Int) = 1) := ⟨_, rfl⟩
  have HVD := Lib.hid hvd.symm
  obtain ⟨TA, hTA⟩ : ∃ t : ByteArray, t = ⟨(textQ p1).toArray⟩ := ⟨_, rfl⟩
  have HTA := Lib.hid hTA.symm
  clear hp1 hvd hTA
  have HS := Lib.hid hs
  clear hs
  clear htab hr1 hr2 l1 l2 b1 hk
  go_enter Tryz.func3, Tryz.ntmps3
  go_upto_region 1 with (fail)
  obtain ⟨v2, hV⟩ : ∃ V, V = w.alloc (.cells #[.bool x1.t.s, .slice x1.t.a x1.t.n x1.t.c, .bool x1.l.s, .slice x1.l.a x1.l.n x1.l.c] 26) := ⟨_, rfl⟩
  have hbV : Below w.heap.size w v2 := by rw [hV]; exact ((Below.refl _ _).alloc (Nat.le_refl _) _)
  have BX1 := Lib.hid (show Bxs v2 (w.heap.size) 26 [.bool x1.t.s, .slice x1.t.a x1.t.n x1.t.c, .bool x1.l.s, .slice x1.l.a x1.l.n x1.l.c] by have h := Bxs.new (w) 26 [.bool x1.t.s, .slice x1.t.a x1.t.n x1.t.c, .bool x1.l.s, .slice x1.l.a x1.l.n x1.l.c]; rw [hV]; exact h)
  rw [show w.alloc (.cells #[.bool x1.t.s, .slice x1.t.a x1.t.n x1.t.c, .bool x1.l.s, .slice x1.l.a x1.l.n x1.l.c] 26) = v2 from hV.symm]
  have KG := Lib.hid (KG.out.trans (hbV.mono KG.out.size))
  clear hV hbV
  have gs : ((s.size : Int) > 2000) := by have := HS.out; omega
  have cBX10 := BX1.out.cell (i := 0) rfl
  have cBX11 := BX1.out.cell (i := 1) rfl
  have cBX12 := BX1.out.cell (i := 2) rfl
  have cBX13 := BX1.out.cell (i := 3) rfl
  have cBX1f := BX1.out.fz
  have cBX1l := BX1.out.lt
  go_wp2_with fail
  clear cBX10 cBX11 cBX12 cBX13 cBX1f cBX1l
  obtain ⟨v4, hV⟩ : ∃ V, V = v2.alloc (.cells #[.bool x1.t.s, .slice x1.t.a x1.t.n x1.t.c, .bool x1.l.s, .slice x1.l.a x1.l.n x1.l.c] 26) := ⟨_, rfl⟩
  have hbV : Below v2.heap.size v2 v4 := by rw [hV]; exact ((Below.refl _ _).alloc (Nat.le_refl _) _)
  have BX3 := Lib.hid (show Bxs v4 (v2.heap.size) 26 [.bool x1.t.s, .slice x1.t.a x1.t.n x1.t.c, .bool x1.l.s, .slice x1.l.a x1.l.n x1.l.c] by have h := Bxs.new (v2) 26 [.bool x1.t.s, .slice x1.t.a x1.t.n x1.t.c, .bool x1.l.s, .slice x1.l.a x1.l.n x1.l.c]; rw [hV]; exact h)
  rw [show v2.alloc (.cells #[.bool x1.t.s, .slice x1.t.a x1.t.n x1.t.c, .bool x1.l.s, .slice x1.l.a x1.l.n x1.l.c] 26) = v4 from hV.symm]
  have BX1 := Lib.hid (BX1.out.below hbV BX1.out.lt)
  have KG := Lib.hid (KG.out.trans (hbV.mono KG.out.size))
  clear hV hbV
  have cBX10 := BX1.out.cell (i := 0) rfl
  have cBX11 := BX1.out.cell (i := 1) rfl
  have cBX12 := BX1.out.cell (i := 2) rfl
  have cBX13 := BX1.out.cell (i := 3) rfl
  have cBX1f := BX1.out.fz
  have cBX1l := BX1.out.lt
  have CT := Lib.hid (qgreat1 (M := 25) BX3.out)
  rw [show ((25 : Nat) : Int) = 25 from rfl, show decide ((25 < x1.t.n ∨ 25 < x1.l.n)) = false from decide_eq_false (by have g0 := (((N1.out.below KG.out)).len LQp1.out (by decide : _ ≤ 25)); omega)] at CT
  with_reducible refine CT.out.mono ?_
  rintro e w5 ⟨rfl, hb⟩
  clear CT
  clear cBX10 cBX11 cBX12 cBX13 cBX1f cBX1l
  clear BX1
  clear BX3
  have KG := Lib.hid (KG.out.trans (hb.mono KG.out.size))
  clear hb
  go_wp2_with fail
  go_ret
  exact ⟨rfl, KG.out⟩
set_option maxRecDepth 100000 in
set_option maxHeartbeats 8000000 in
theorem texts_ok_0 (x1 : FV) (o1 o2 : Nat → Int) (s : ByteArray) (w : World) (htab : Tab w) (hr1 : Rd w x1.t.a x1.t.n o1) (l1 : x1.t.n ≤ x1.t.c) (hr2 : Rd w x1.l.a x1.l.n o2) (l2 : x1.l.n ≤ x1.l.c) (b1 : LF x1 25) (hk : okF x1.t.s x1.t.n o1 x1.l.s x1.l.n o2) (hs : s.size ≤ 2000) (hc : codeF s.data.toList = 0) : Calls Tryz.prog 3 #[x1.v, .string s] w fun e w' => e = .returned (.bool true) ∧ Below w.heap.size w w' := by
  have HT := Lib.hid htab
  have KG := Lib.hid (Below.refl w.heap.size w)
  have HR1 := Lib.hid hr1
  have HR2 := Lib.hid hr2
  have Bx1 := Lib.hid b1
  have HOK := Lib.hid hk
  obtain ⟨p1, hp1⟩ : ∃ q, q = valF x1.t.s x1.t.n o1 x1.l.s x1.l.n o2 := ⟨_, rfl⟩
  have HP1 := Lib.hid hp1
  have N1 := Lib.hid (show KF w x1 p1 by rw [hp1]; exact KF.raw hr1 l1 hr2 l2 hk)
  have LQp1 := Lib.hid (N1.out.lq b1)
  obtain ⟨vd, hvd⟩ : ∃ b, b = decide ((p1.den : Int) = 1) := ⟨_, rfl⟩
  have HVD := Lib.hid hvd.symm
  obtain ⟨TA, hTA⟩ : ∃ t : ByteArray, t = ⟨(textQ p1).toArray⟩ := ⟨_, rfl⟩
  have HTA := Lib.hid hTA.symm
  clear hp1 hvd hTA
  have HS := Lib.hid hs
  have HSM := Lib.hid (show s.size ≤ 9223372036854775807 by omega)
  have HSM6 := Lib.hid (show s.size ≤ 9223372036854775806 by omega)
  have HC := Lib.hid hc
  obtain ⟨qs, hqs⟩ : ∃ q, q = ratF s.data.toList := ⟨_, rfl⟩
  have LQqs := Lib.hid (show LQ qs 23 by rw [hqs]; exact ratF_len hc)
  have HQS := Lib.hid hqs
  clear hqs
  clear hs hc
  clear htab hr1 hr2 l1 l2 b1 hk
  go_enter Tryz.func3, Tryz.ntmps3
  go_upto_region 1 with (fail)
  obtain ⟨v2, hV⟩ : ∃ V, V = w.alloc (.cells #[.bool x1.t.s, .slice x1.t.a x1.t.n x1.t.c, .bool x1.l.s, .slice x1.l.a x1.l.n x1.l.c] 26) := ⟨_, rfl⟩
  have hbV : Below w.heap.size w v2 := by rw [hV]; exact ((Below.refl _ _).alloc (Nat.le_refl _) _)
  have BX1 := Lib.hid (show Bxs v2 (w.heap.size) 26 [.bool x1.t.s, .slice x1.t.a x1.t.n x1.t.c, .bool x1.l.s, .slice x1.l.a x1.l.n x1.l.c] by have h := Bxs.new (w) 26 [.bool x1.t.s, .slice x1.t.a x1.t.n x1.t.c, .bool x1.l.s, .slice x1.l.a x1.l.n x1.l.c]; rw [hV]; exact h)
  rw [show w.alloc (.cells #[.bool x1.t.s, .slice x1.t.a x1.t.n x1.t.c, .bool x1.l.s, .slice x1.l.a x1.l.n x1.l.c] 26) = v2 from hV.symm]
  have KG := Lib.hid (KG.out.trans (hbV.mono KG.out.size))
  clear hV hbV
  have gs : ¬ ((s.size : Int) > 2000) := by have := HS.out; omega
  have cBX10 := BX1.out.cell (i := 0) rfl
  have cBX11 := BX1.out.cell (i := 1) rfl
  have cBX12 := BX1.out.cell (i := 2) rfl
  have cBX13 := BX1.out.cell (i := 3) rfl
  have cBX1f := BX1.out.fz
  have cBX1l := BX1.out.lt
  go_wp2_with fail
  clear cBX10 cBX11 cBX12 cBX13 cBX1f cBX1l
  obtain ⟨v4, hV⟩ : ∃ V, V = v2.alloc (.cells #[.bool x1.t.s, .slice x1.t.a x1.t.n x1.t.c, .bool x1.l.s, .slice x1.l.a x1.l.n x1.l.c] 26) := ⟨_, rfl⟩
  have hbV : Below v2.heap.size v2 v4 := by rw [hV]; exact ((Below.refl _ _).alloc (Nat.le_refl _) _)
  have BX3 := Lib.hid (show Bxs v4 (v2.heap.size) 26 [.bool x1.t.s, .slice x1.t.a x1.t.n x1.t.c, .bool x1.l.s, .slice x1.l.a x1.l.n x1.l.c] by have h := Bxs.new (v2) 26 [.bool x1.t.s, .slice x1.t.a x1.t.n x1.t.c, .bool x1.l.s, .slice x1.l.a x1.l.n x1.l.c]; rw [hV]; exact h)
  rw [show v2.alloc (.cells #[.bool x1.t.s, .slice x1.t.a x1.t.n x1.t.c, .bool x1.l.s, .slice x1.l.a x1.l.n x1.l.c] 26) = v4 from hV.symm]
  have BX1 := Lib.hid (BX1.out.below hbV BX1.out.lt)
  have KG := Lib.hid (KG.out.trans (hbV.mono KG.out.size))
  clear hV hbV
  have cBX10 := BX1.out.cell (i := 0) rfl
  have cBX11 := BX1.out.cell (i := 1) rfl
  have cBX12 := BX1.out.cell (i := 2) rfl
  have cBX13 := BX1.out.cell (i := 3) rfl
  have cBX1f := BX1.out.fz
  have cBX1l := BX1.out.lt
  have CT := Lib.hid (qgreat1 (M := 25) BX3.out)
  rw [show ((25 : Nat) : Int) = 25 from rfl, show decide ((25 < x1.t.n ∨ 25 < x1.l.n)) = false from decide_eq_false (by have g0 := (((N1.out.below KG.out)).len LQp1.out (by decide : _ ≤ 25)); omega)] at CT
  with_reducible refine CT.out.mono ?_
  rintro e w5 ⟨rfl, hb⟩
  clear CT
  clear cBX10 cBX11 cBX12 cBX13 cBX1f cBX1l
  have BX1 := Lib.hid (BX1.out.below hb BX1.out.lt)
  clear BX3
  have KG := Lib.hid (KG.out.trans (hb.mono KG.out.size))
  clear hb
  have cBX10 := BX1.out.cell (i := 0) rfl
  have cBX11 := BX1.out.cell (i := 1) rfl
  have cBX12 := BX1.out.cell (i := 2) rfl
  have cBX13 := BX1.out.cell (i := 3) rfl
  have cBX1f := BX1.out.fz
  have cBX1l := BX1.out.lt
  go_wp2_with fail
  have HA := Lib.hid (OwnAll.nil w5.heap.size w5)
  have HLS := Lib.hid (Nat.le_refl w5.heap.size)
  have HLO := Lib.hid (show w.heap.size ≤ w5.heap.size from KG.out.size)
  with_reducible refine (twinFrac_any x1.t.s x1.t.a x1.t.n x1.t.c o1 x1.l.s x1.l.a x1.l.n x1.l.c o2 w5 (HR1.out.below KG.out) (by have := Bx1.out.1; omega) (HR2.out.below KG.out) (by have := Bx1.out.2; omega)).mono ?_
  rintro e w6 ⟨g1, g2, rfl, hO1, hO2, hne, hb⟩
  have ho1 : Own 80 w6 w5.heap.size (some ⟨g1, 0, none⟩) x1.t.n (x1.t.n + 1) o1 := (hO1.less (by omega)).congr fun i hi => (if_pos hi)
  have ho2 : Own 80 w6 w5.heap.size (some ⟨g2, 0, none⟩) x1.l.n (x1.l.n + 1) o2 := (hO2.less (by omega)).congr fun i hi => (if_pos hi)
  have hap : Apart2 (some ⟨g1, 0, none⟩) (some ⟨g2, 0, none⟩) := fun p q hp hq e => by cases hp; cases hq; exact hne e
  have HT1 := Lib.hid hO1
  have HT2 := Lib.hid hO2
  have NX := Lib.hid (KF.raw (s1 := x1.t.s) (s2 := x1.l.s) ho1.rd ho1.le ho2.rd ho2.le HOK.out)
  rw [← HP1.out] at NX
  clear cBX10 cBX11 cBX12 cBX13 cBX1f cBX1l
  have hA1 := HA.out.more2 HLS.out hb (x := ⟨0, x1.t.s, some ⟨g1, 0, none⟩, x1.t.n, x1.t.n + 1, o1⟩) (y := ⟨0, x1.l.s, some ⟨g2, 0, none⟩, x1.l.n, x1.l.n + 1, o2⟩) ho1 ho2 hap
  have HA := Lib.hid hA1
  clear hA1
  simp only [List.nil_append, List.cons_append] at HA
  have HLS := Lib.hid (Nat.le_trans HLS.out hb.size)
  have BX1 := Lib.hid (BX1.out.below hb BX1.out.lt)
  have KG := Lib.hid (KG.out.trans (hb.mono KG.out.size))
  clear hb ho1 ho2 hap hne hO1 hO2
  go_upto_region 4 with (fail)
  obtain ⟨v8, hV⟩ : ∃ V, V = w6.alloc (.cells #[.bool x1.t.s, .slice (some ⟨g1, 0, none⟩) x1.t.n (x1.t.n + 1), .bool x1.l.s, .slice (some ⟨g2, 0, none⟩) x1.l.n (x1.l.n + 1)] 26) := ⟨_, rfl⟩
  have hbV : Below w6.heap.size w6 v8 := by rw [hV]; exact ((Below.refl _ _).alloc (Nat.le_refl _) _)
  have BX7 := Lib.hid (show Bxs v8 (w6.heap.size) 26 [.bool x1.t.s, .slice (some ⟨g1, 0, none⟩) x1.t.n (x1.t.n + 1), .bool x1.l.s, .slice (some ⟨g2, 0, none⟩) x1.l.n (x1.l.n + 1)] by have h := Bxs.new (w6) 26 [.bool x1.t.s, .slice (some ⟨g1, 0, none⟩) x1.t.n (x1.t.n + 1), .bool x1.l.s, .slice (some ⟨g2, 0, none⟩) x1.l.n (x1.l.n + 1)]; rw [hV]; exact h)
  rw [show w6.alloc (.cells #[.bool x1.t.s, .slice (some ⟨g1, 0, none⟩) x1.t.n (x1.t.n + 1), .bool x1.l.s, .slice (some ⟨g2, 0, none⟩) x1.l.n (x1.l.n + 1)] 26) = v8 from hV.symm]
  have HA := Lib.hid (HA.out.below hbV)
  have HLS := Lib.hid (Nat.le_trans HLS.out hbV.size)
  have HT1 := Lib.hid (HT1.out.below hbV)
  have HT2 := Lib.hid (HT2.out.below hbV)
  have NX := Lib.hid (NX.out.below hbV)
  have BX1 := Lib.hid (BX1.out.below hbV BX1.out.lt)
  have KG := Lib.hid (KG.out.trans (hbV.mono KG.out.size))
  clear hV hbV
  go_wp2_with fail
  have CT := Lib.hid (qparse_z v8 HSM.out HC.out HQS.out.symm)
  rw [show qs = qs from by skip; grind] at CT
  with_reducible refine CT.out.mono ?_
  rintro e w9 ⟨x10, rfl, hN11, hb⟩
  have N11 := Lib.hid hN11
  clear hN11
  clear CT
  have hA1 := HA.out.more2 HLS.out hb (x := ⟨0, x10.t.s, x10.t.a, x10.t.n, x10.t.c, dgi qs.num.natAbs⟩) (y := ⟨0, x10.l.s, x10.l.a, x10.l.n, x10.l.c, dgi (qs.den : Int).natAbs⟩) (by have h := N11.out.t.own; exact h) (by have h := N11.out.l.own; exact h) N11.out.ap
  have HA := Lib.hid hA1
  clear hA1
  simp only [List.nil_append, List.cons_append] at HA
  have HLS := Lib.hid (Nat.le_trans HLS.out hb.size)
  have HT1 := Lib.hid (HT1.out.below hb)
  have HT2 := Lib.hid (HT2.out.below hb)
  have NX := Lib.hid (NX.out.below hb)
  have BX1 := Lib.hid (BX1.out.below hb BX1.out.lt)
  have BX7 := Lib.hid (BX7.out.below hb BX7.out.lt)
  have KG := Lib.hid (KG.out.trans (hb.mono KG.out.size))
  clear hb
  go_upto_region 5 with (fail)
  obtain ⟨v13, hV⟩ : ∃ V, V = w9.alloc (.cells #[.bool x10.t.s, .slice x10.t.a x10.t.n x10.t.c, .bool x10.l.s, .slice x10.l.a x10.l.n x10.l.c] 26) := ⟨_, rfl⟩
  have hbV : Below w9.heap.size w9 v13 := by rw [hV]; exact ((Below.refl _ _).alloc (Nat.le_refl _) _)
  have BX12 := Lib.hid (show Bxs v13 (w9.heap.size) 26 [.bool x10.t.s, .slice x10.t.a x10.t.n x10.t.c, .bool x10.l.s, .slice x10.l.a x10.l.n x10.l.c] by have h := Bxs.new (w9) 26 [.bool x10.t.s, .slice x10.t.a x10.t.n x10.t.c, .bool x10.l.s, .slice x10.l.a x10.l.n x10.l.c]; rw [hV]; exact h)
  rw [show w9.alloc (.cells #[.bool x10.t.s, .slice x10.t.a x10.t.n x10.t.c, .bool x10.l.s, .slice x10.l.a x10.l.n x10.l.c] 26) = v13 from hV.symm]
  have HA := Lib.hid (HA.out.below hbV)
  have HLS := Lib.hid (Nat.le_trans HLS.out hbV.size)
  have HT1 := Lib.hid (HT1.out.below hbV)
  have HT2 := Lib.hid (HT2.out.below hbV)
  have NX := Lib.hid (NX.out.below hbV)
  have N11 := Lib.hid (N11.out.below hbV)
  have BX1 := Lib.hid (BX1.out.below hbV BX1.out.lt)
  have BX7 := Lib.hid (BX7.out.below hbV BX7.out.lt)
  have KG := Lib.hid (KG.out.trans (hbV.mono KG.out.size))
  clear hV hbV
  go_wp2_with fail
  have CT := Lib.hid (rq_z v13 HSM6.out HC.out HQS.out.symm)
  with_reducible refine CT.out.mono ?_
  rintro e w14 ⟨x15, rfl, hN16, hb⟩
  have N16 := Lib.hid hN16
  clear hN16
  clear CT
  have HA := Lib.hid (HA.out.below hb)
  have HLS := Lib.hid (Nat.le_trans HLS.out hb.size)
  have HT1 := Lib.hid (HT1.out.below hb)
  have HT2 := Lib.hid (HT2.out.below hb)
  have NX := Lib.hid (NX.out.below hb)
  have N11 := Lib.hid (N11.out.below hb)
  have BX1 := Lib.hid (BX1.out.below hb BX1.out.lt)
  have BX7 := Lib.hid (BX7.out.below hb BX7.out.lt)
  have BX12 := Lib.hid (BX12.out.below hb BX12.out.lt)
  have KG := Lib.hid (KG.out.trans (hb.mono KG.out.size))
  clear hb
  go_upto_region 6 with (fail)
  obtain ⟨v18, hV⟩ : ∃ V, V = w14.alloc (.cells #[.bool x15.t.s, .slice x15.t.a x15.t.n x15.t.c, .bool x15.l.s, .slice x15.l.a x15.l.n x15.l.c] 26) := ⟨_, rfl⟩
  have hbV : Below w14.heap.size w14 v18 := by rw [hV]; exact ((Below.refl _ _).alloc (Nat.le_refl _) _)
  have BX17 := Lib.hid (show Bxs v18 (w14.heap.size) 26 [.bool x15.t.s, .slice x15.t.a x15.t.n x15.t.c, .bool x15.l.s, .slice x15.l.a x15.l.n x15.l.c] by have h := Bxs.new (w14) 26 [.bool x15.t.s, .slice x15.t.a x15.t.n x15.t.c, .bool x15.l.s, .slice x15.l.a x15.l.n x15.l.c]; rw [hV]; exact h)
  rw [show w14.alloc (.cells #[.bool x15.t.s, .slice x15.t.a x15.t.n x15.t.c, .bool x15.l.s, .slice x15.l.a x15.l.n x15.l.c] 26) = v18 from hV.symm]
  have HA := Lib.hid (HA.out.below hbV)
  have HLS := Lib.hid (Nat.le_trans HLS.out hbV.size)
  have HT1 := Lib.hid (HT1.out.below hbV)
  have HT2 := Lib.hid (HT2.out.below hbV)
  have NX := Lib.hid (NX.out.below hbV)
  have N11 := Lib.hid (N11.out.below hbV)
  have N16 := Lib.hid (N16.out.below hbV)
  have BX1 := Lib.hid (BX1.out.below hbV BX1.out.lt)
  have BX7 := Lib.hid (BX7.out.below hbV BX7.out.lt)
  have BX12 := Lib.hid (BX12.out.below hbV BX12.out.lt)
  have KG := Lib.hid (KG.out.trans (hbV.mono KG.out.size))
  clear hV hbV
  go_upto_region 6 with (fail)
  refine Go.FreshS.wp_region_fresh 35 [] (Go.FreshS.spOf [(1, Go.FreshS.Sp.know (.bool true)), (3, Go.FreshS.Sp.know (.bool true)), (7, Go.FreshS.Sp.know (.bool vd)), (9, Go.FreshS.Sp.know (.bool vd)), (14, Go.FreshS.Sp.know (.string TA)), (16, Go.FreshS.Sp.know (.string TA)), (22, Go.FreshS.Sp.know (.bool true)), (33, Go.FreshS.Sp.know (.bool true))])
    (fun w' => Below v18.heap.size v18 w') (by kernel_rfl) (by kernel_rfl) (by kernel_rfl)
    (Go.FreshS.spOf_cons (Go.FreshS.Sp.know_keeps _ _) (Go.FreshS.spOf_cons (Go.FreshS.Sp.know_keeps _ _) (Go.FreshS.spOf_cons (Go.FreshS.Sp.know_keeps _ _) (Go.FreshS.spOf_cons (Go.FreshS.Sp.know_keeps _ _) (Go.FreshS.spOf_cons (Go.FreshS.Sp.know_keeps _ _) (Go.FreshS.spOf_cons (Go.FreshS.Sp.know_keeps _ _) (Go.FreshS.spOf_cons (Go.FreshS.Sp.know_keeps _ _) (Go.FreshS.spOf_cons (Go.FreshS.Sp.know_keeps _ _) (Go.FreshS.spOf_nil))))))))) (fun _ _ h hb => h.trans (hb.mono h.size)) ((Below.refl _ _).drew) ?_
  simp only [List.append_eq, List.cons_append, List.nil_append, List.take_succ_cons, List.take_zero, List.drop_succ_cons, List.drop_zero]
  refine Go.FreshS.wpF_reads rfl rfl rfl ?_ (fun w' hw' => ?_) ?_
  rotate_left
  · have hb' := hw'.world
    have hs0 := (BX7.out.below hb' BX7.out.lt).cell (i := 0) rfl
    have hs1 := (BX7.out.below hb' BX7.out.lt).cell (i := 1) rfl
    have hs2 := (BX7.out.below hb' BX7.out.lt).cell (i := 2) rfl
    have hs3 := (BX7.out.below hb' BX7.out.lt).cell (i := 3) rfl
    have hsf := (BX7.out.below hb' BX7.out.lt).fz
    have hsl := (BX7.out.below hb' BX7.out.lt).lt
    clear hw'
    go_simp
    try rfl
  conv => arg 10; simp only [Act.put, List.setIfInBounds_toArray, List.set_cons_succ, List.set_cons_zero]
  refine Go.FreshS.wpF_spec rfl rfl rfl (fun w' hw' => ?_) ?_
  · have hb' := hw'.world
    refine Go.FreshS.gives_of (Go.FreshS.PK (.bool true)) ?_ (fun _ _ h => h.post)
    go_simp
    have CT := qcheck (NX.out.below hb') (((NX.out.below hb')).len LQp1.out (by decide : _ ≤ 900000))
    refine CT.mono ?_
    rintro e w'' ⟨rfl, hb⟩
    exact ⟨_, rfl, rfl, hb⟩
  rintro _ rfl
  conv => arg 10; simp only [Act.put, List.setIfInBounds_toArray, List.set_cons_succ, List.set_cons_zero]
  refine Go.FreshS.wpF_reads rfl rfl rfl ?_ (fun w' hw' => ?_) ?_
  rotate_left
  · have hb' := hw'.world
    have hs0 := (BX1.out.below hb' BX1.out.lt).cell (i := 0) rfl
    have hs1 := (BX1.out.below hb' BX1.out.lt).cell (i := 1) rfl
    have hs2 := (BX1.out.below hb' BX1.out.lt).cell (i := 2) rfl
    have hs3 := (BX1.out.below hb' BX1.out.lt).cell (i := 3) rfl
    have hsf := (BX1.out.below hb' BX1.out.lt).fz
    have hsl := (BX1.out.below hb' BX1.out.lt).lt
    clear hw'
    go_simp
    try rfl
  conv => arg 10; simp only [Act.put, List.setIfInBounds_toArray, List.set_cons_succ, List.set_cons_zero]
  refine Go.FreshS.wpF_spec rfl rfl rfl (fun w' hw' => ?_) ?_
  · have hb' := hw'.world
    refine Go.FreshS.gives_of (Go.FreshS.PK (.bool true)) ?_ (fun _ _ h => h.post)
    go_simp
    have CT := rcheckQ (N1.out.below (KG.out.trans (hb'.mono KG.out.size))) (((N1.out.below (KG.out.trans (hb'.mono KG.out.size)))).len LQp1.out (by decide : _ ≤ 900000))
    refine CT.mono ?_
    rintro e w'' ⟨rfl, hb⟩
    exact ⟨_, rfl, rfl, hb⟩
  rintro _ rfl
  conv => arg 10; simp only [Act.put, List.setIfInBounds_toArray, List.set_cons_succ, List.set_cons_zero]
  refine Go.FreshS.wpF_reads rfl rfl rfl ?_ (fun w' hw' => ?_) ?_
  rotate_left
  · have hb' := hw'.world
    skip
    clear hw'
    go_simp
    try rfl
  conv => arg 10; simp only [Act.put, List.setIfInBounds_toArray, List.set_cons_succ, List.set_cons_zero]
  refine Go.FreshS.wpF_reads rfl rfl rfl ?_ (fun w' hw' => ?_) ?_
  rotate_left
  · have hb' := hw'.world
    skip
    clear hw'
    go_simp
    try rfl
  conv => arg 10; simp only [Act.put, List.setIfInBounds_toArray, List.set_cons_succ, List.set_cons_zero]
  refine Go.FreshS.wpF_readsG (by rfl) rfl rfl ?_ (fun w' hw' => ?_) ?_
  rotate_left
  · have hb' := hw'.world
    have hs0 := (BX7.out.below hb' BX7.out.lt).cell (i := 0) rfl
    have hs1 := (BX7.out.below hb' BX7.out.lt).cell (i := 1) rfl
    have hs2 := (BX7.out.below hb' BX7.out.lt).cell (i := 2) rfl
    have hs3 := (BX7.out.below hb' BX7.out.lt).cell (i := 3) rfl
    have hsf := (BX7.out.below hb' BX7.out.lt).fz
    have hsl := (BX7.out.below hb' BX7.out.lt).lt
    clear hw'
    go_simp
    try rfl
  conv => arg 10; simp only [Act.put, List.setIfInBounds_toArray, List.set_cons_succ, List.set_cons_zero]
  refine Go.FreshS.wpF_gspec (by rfl) rfl rfl (fun w' hw' => ?_) ?_
  · have hb' := hw'.world
    refine Go.FreshS.gives_of (Go.FreshS.PK (.bool vd)) ?_ (fun _ _ h => h.post)
    go_simp
    have CT := qwhole (⟨⟨x1.t.s, some ⟨g1, 0, none⟩, x1.t.n, x1.t.n + 1⟩, ⟨x1.l.s, some ⟨g2, 0, none⟩, x1.l.n, x1.l.n + 1⟩⟩ : FV) p1 w' ((NX.out.below hb')).any (((NX.out.below hb')).len LQp1.out (by decide : _ ≤ 100)) (LQp1.out.up (by decide : _ ≤ 101))
    rw [show decide ((p1.den : Int) = 1) = vd from HVD.out] at CT
    refine CT.mono ?_
    rintro e w'' ⟨rfl, hb⟩
    exact ⟨_, rfl, rfl, hb⟩
  rintro _ rfl
  conv => arg 10; simp only [Act.put, List.setIfInBounds_toArray, List.set_cons_succ, List.set_cons_zero]
  refine Go.FreshS.wpF_readsG (by rfl) rfl rfl ?_ (fun w' hw' => ?_) ?_
  rotate_left
  · have hb' := hw'.world
    have hs0 := (BX1.out.below hb' BX1.out.lt).cell (i := 0) rfl
    have hs1 := (BX1.out.below hb' BX1.out.lt).cell (i := 1) rfl
    have hs2 := (BX1.out.below hb' BX1.out.lt).cell (i := 2) rfl
    have hs3 := (BX1.out.below hb' BX1.out.lt).cell (i := 3) rfl
    have hsf := (BX1.out.below hb' BX1.out.lt).fz
    have hsl := (BX1.out.below hb' BX1.out.lt).lt
    clear hw'
    go_simp
    try rfl
  conv => arg 10; simp only [Act.put, List.setIfInBounds_toArray, List.set_cons_succ, List.set_cons_zero]
  refine Go.FreshS.wpF_gspec (by rfl) rfl rfl (fun w' hw' => ?_) ?_
  · have hb' := hw'.world
    refine Go.FreshS.gives_of (Go.FreshS.PK (.bool vd)) ?_ (fun _ _ h => h.post)
    go_simp
    have CT := rwholeQ x1 p1 w' ((N1.out.below (KG.out.trans (hb'.mono KG.out.size)))).any (((N1.out.below (KG.out.trans (hb'.mono KG.out.size)))).len LQp1.out (by decide : _ ≤ 100)) (LQp1.out.up (by decide : _ ≤ 101))
    rw [show decide ((p1.den : Int) = 1) = vd from HVD.out] at CT
    refine CT.mono ?_
    rintro e w'' ⟨rfl, hb⟩
    exact ⟨_, rfl, rfl, hb⟩
  rintro _ rfl
  conv => arg 10; simp only [Act.put, List.setIfInBounds_toArray, List.set_cons_succ, List.set_cons_zero]
  refine Go.FreshS.wpF_readsG (by rfl) rfl rfl ?_ (fun w' hw' => ?_) ?_
  rotate_left
  · have hb' := hw'.world
    skip
    clear hw'
    go_simp
    try rfl
  conv => arg 10; simp only [Act.put, List.setIfInBounds_toArray, List.set_cons_succ, List.set_cons_zero]
  refine Go.FreshS.wpF_reads rfl rfl rfl ?_ (fun w' hw' => ?_) ?_
  rotate_left
  · have hb' := hw'.world
    skip
    clear hw'
    go_simp
    try rfl
  conv => arg 10; simp only [Act.put, List.setIfInBounds_toArray, List.set_cons_succ, List.set_cons_zero]
  refine Go.FreshS.wpF_reads rfl rfl rfl ?_ (fun w' hw' => ?_) ?_
  rotate_left
  · have hb' := hw'.world
    skip
    clear hw'
    go_simp
    try rfl
  conv => arg 10; simp only [Act.put, List.setIfInBounds_toArray, List.set_cons_succ, List.set_cons_zero]
  refine Go.FreshS.wpF_readsG (by rfl) rfl rfl ?_ (fun w' hw' => ?_) ?_
  rotate_left
  · have hb' := hw'.world
    have hs0 := (BX7.out.below hb' BX7.out.lt).cell (i := 0) rfl
    have hs1 := (BX7.out.below hb' BX7.out.lt).cell (i := 1) rfl
    have hs2 := (BX7.out.below hb' BX7.out.lt).cell (i := 2) rfl
    have hs3 := (BX7.out.below hb' BX7.out.lt).cell (i := 3) rfl
    have hsf := (BX7.out.below hb' BX7.out.lt).fz
    have hsl := (BX7.out.below hb' BX7.out.lt).lt
    clear hw'
    go_simp
    try rfl
  conv => arg 10; simp only [Act.put, List.setIfInBounds_toArray, List.set_cons_succ, List.set_cons_zero]
  refine Go.FreshS.wpF_gspec (by rfl) rfl rfl (fun w' hw' => ?_) ?_
  · have hb' := hw'.world
    refine Go.FreshS.gives_of (Go.FreshS.PK (.string TA)) ?_ (fun _ _ h => h.post)
    go_simp
    have CT := qtextA' (⟨⟨x1.t.s, some ⟨g1, 0, none⟩, x1.t.n, x1.t.n + 1⟩, ⟨x1.l.s, some ⟨g2, 0, none⟩, x1.l.n, x1.l.n + 1⟩⟩ : FV) p1 w' (HT.out.on (KG.out.trans (hb'.mono KG.out.size))) ((NX.out.below hb')).any (((NX.out.below hb')).len LQp1.out (by decide : _ ≤ 100)) (LQp1.out.up (by decide : _ ≤ 101))
    rw [show (⟨(textQ p1).toArray⟩ : ByteArray) = TA from HTA.out] at CT
    refine CT.mono ?_
    rintro e w'' ⟨rfl, hb⟩
    exact ⟨_, rfl, rfl, hb⟩
  rintro _ rfl
  conv => arg 10; simp only [Act.put, List.setIfInBounds_toArray, List.set_cons_succ, List.set_cons_zero]
  refine Go.FreshS.wpF_readsG (by rfl) rfl rfl ?_ (fun w' hw' => ?_) ?_
  rotate_left
  · have hb' := hw'.world
    have hs0 := (BX1.out.below hb' BX1.out.lt).cell (i := 0) rfl
    have hs1 := (BX1.out.below hb' BX1.out.lt).cell (i := 1) rfl
    have hs2 := (BX1.out.below hb' BX1.out.lt).cell (i := 2) rfl
    have hs3 := (BX1.out.below hb' BX1.out.lt).cell (i := 3) rfl
    have hsf := (BX1.out.below hb' BX1.out.lt).fz
    have hsl := (BX1.out.below hb' BX1.out.lt).lt
    clear hw'
    go_simp
    try rfl
  conv => arg 10; simp only [Act.put, List.setIfInBounds_toArray, List.set_cons_succ, List.set_cons_zero]
  refine Go.FreshS.wpF_gspec (by rfl) rfl rfl (fun w' hw' => ?_) ?_
  · have hb' := hw'.world
    refine Go.FreshS.gives_of (Go.FreshS.PK (.string TA)) ?_ (fun _ _ h => h.post)
    go_simp
    have CT := rtextQ x1 p1 w' ((N1.out.below (KG.out.trans (hb'.mono KG.out.size)))).any (((N1.out.below (KG.out.trans (hb'.mono KG.out.size)))).len LQp1.out (by decide : _ ≤ 100)) (LQp1.out.up (by decide : _ ≤ 101))
    rw [show (⟨(textQ p1).toArray⟩ : ByteArray) = TA from HTA.out] at CT
    refine CT.mono ?_
    rintro e w'' ⟨rfl, hb⟩
    exact ⟨_, rfl, rfl, hb⟩
  rintro _ rfl
  conv => arg 10; simp only [Act.put, List.setIfInBounds_toArray, List.set_cons_succ, List.set_cons_zero]
  refine Go.FreshS.wpF_readsG (by rfl) rfl rfl ?_ (fun w' hw' => ?_) ?_
  rotate_left
  · have hb' := hw'.world
    skip
    clear hw'
    go_simp
    try rfl
  conv => arg 10; simp only [Act.put, List.setIfInBounds_toArray, List.set_cons_succ, List.set_cons_zero]
  refine Go.FreshS.wpF_reads rfl rfl rfl ?_ (fun w' hw' => ?_) ?_
  rotate_left
  · have hb' := hw'.world
    skip
    clear hw'
    go_simp
    try rfl
  conv => arg 10; simp only [Act.put, List.setIfInBounds_toArray, List.set_cons_succ, List.set_cons_zero]
  refine Go.FreshS.wpF_reads rfl rfl rfl ?_ (fun w' hw' => ?_) ?_
  rotate_left
  · have hb' := hw'.world
    skip
    clear hw'
    go_simp
    try rfl
  conv => arg 10; simp only [Act.put, List.setIfInBounds_toArray, List.set_cons_succ, List.set_cons_zero]
  refine Go.FreshS.wpF_readsG (by rfl) rfl rfl ?_ (fun w' hw' => ?_) ?_
  rotate_left
  · have hb' := hw'.world
    have hs0 := (BX12.out.below hb' BX12.out.lt).cell (i := 0) rfl
    have hs1 := (BX12.out.below hb' BX12.out.lt).cell (i := 1) rfl
    have hs2 := (BX12.out.below hb' BX12.out.lt).cell (i := 2) rfl
    have hs3 := (BX12.out.below hb' BX12.out.lt).cell (i := 3) rfl
    have hsf := (BX12.out.below hb' BX12.out.lt).fz
    have hsl := (BX12.out.below hb' BX12.out.lt).lt
    clear hw'
    go_simp
    try rfl
  conv => arg 10; simp only [Act.put, List.setIfInBounds_toArray, List.set_cons_succ, List.set_cons_zero]
  refine Go.FreshS.wpF_readsG (by rfl) rfl rfl ?_ (fun w' hw' => ?_) ?_
  rotate_left
  · have hb' := hw'.world
    have hs0 := (BX17.out.below hb' BX17.out.lt).cell (i := 0) rfl
    have hs1 := (BX17.out.below hb' BX17.out.lt).cell (i := 1) rfl
    have hs2 := (BX17.out.below hb' BX17.out.lt).cell (i := 2) rfl
    have hs3 := (BX17.out.below hb' BX17.out.lt).cell (i := 3) rfl
    have hsf := (BX17.out.below hb' BX17.out.lt).fz
    have hsl := (BX17.out.below hb' BX17.out.lt).lt
    clear hw'
    go_simp
    try rfl
  conv => arg 10; simp only [Act.put, List.setIfInBounds_toArray, List.set_cons_succ, List.set_cons_zero]
  refine Go.FreshS.wpF_gspec (by rfl) rfl rfl (fun w' hw' => ?_) ?_
  · have hb' := hw'.world
    refine Go.FreshS.gives_of (Go.FreshS.PK (.bool true)) ?_ (fun _ _ h => h.post)
    go_simp
    have CT := qsameFr ((N11.out.below hb')).k ((((N11.out.below hb')).k).len LQqs.out (by decide : _ ≤ 900000)) (N16.out.below hb') (((N16.out.below hb')).len LQqs.out (by decide : _ ≤ 900000)) (rfl)
    refine CT.mono ?_
    rintro e w'' ⟨rfl, hb⟩
    exact ⟨_, rfl, rfl, hb⟩
  rintro _ rfl
  conv => arg 10; simp only [Act.put, List.setIfInBounds_toArray, List.set_cons_succ, List.set_cons_zero]
  refine Go.FreshS.wpF_readsG (by rfl) rfl rfl ?_ (fun w' hw' => ?_) ?_
  rotate_left
  · have hb' := hw'.world
    skip
    clear hw'
    go_simp
    try rfl
  conv => arg 10; simp only [Act.put, List.setIfInBounds_toArray, List.set_cons_succ, List.set_cons_zero]
  refine Go.FreshS.wpF_reads rfl rfl rfl ?_ (fun w' hw' => ?_) ?_
  rotate_left
  · have hb' := hw'.world
    skip
    clear hw'
    go_simp
    try rfl
  conv => arg 10; simp only [Act.put, List.setIfInBounds_toArray, List.set_cons_succ, List.set_cons_zero]
  refine Go.FreshS.wpF_reads rfl rfl rfl ?_ (fun w' hw' => ?_) ?_
  rotate_left
  · have hb' := hw'.world
    skip
    clear hw'
    go_simp
    try rfl
  conv => arg 10; simp only [Act.put, List.setIfInBounds_toArray, List.set_cons_succ, List.set_cons_zero]
  refine Go.FreshS.wpF_readsG (by rfl) rfl rfl ?_ (fun w' hw' => ?_) ?_
  rotate_left
  · have hb' := hw'.world
    skip
    clear hw'
    go_simp
    try rfl
  conv => arg 10; simp only [Act.put, List.setIfInBounds_toArray, List.set_cons_succ, List.set_cons_zero]
  refine Go.FreshS.wpF_readsG (by rfl) rfl rfl ?_ (fun w' hw' => ?_) ?_
  rotate_left
  · have hb' := hw'.world
    skip
    clear hw'
    go_simp
    try rfl
  conv => arg 10; simp only [Act.put, List.setIfInBounds_toArray, List.set_cons_succ, List.set_cons_zero]
  refine Go.FreshS.wpF_readsG (by rfl) rfl rfl ?_ (fun w' hw' => ?_) ?_
  rotate_left
  · have hb' := hw'.world
    skip
    clear hw'
    go_simp
    try rfl
  conv => arg 10; simp only [Act.put, List.setIfInBounds_toArray, List.set_cons_succ, List.set_cons_zero]
  refine Go.FreshS.wpF_reads rfl rfl rfl ?_ (fun w' hw' => ?_) ?_
  rotate_left
  · have hb' := hw'.world
    skip
    clear hw'
    go_simp
    try rfl
  conv => arg 10; simp only [Act.put, List.setIfInBounds_toArray, List.set_cons_succ, List.set_cons_zero]
  refine Go.FreshS.wpF_reads rfl rfl rfl ?_ (fun w' hw' => ?_) ?_
  rotate_left
  · have hb' := hw'.world
    skip
    clear hw'
    go_simp
    try rfl
  conv => arg 10; simp only [Act.put, List.setIfInBounds_toArray, List.set_cons_succ, List.set_cons_zero]
  refine Go.FreshS.wpF_readsG (by rfl) rfl rfl ?_ (fun w' hw' => ?_) ?_
  rotate_left
  · have hb' := hw'.world
    have hs0 := (BX7.out.below hb' BX7.out.lt).cell (i := 0) rfl
    have hs1 := (BX7.out.below hb' BX7.out.lt).cell (i := 1) rfl
    have hs2 := (BX7.out.below hb' BX7.out.lt).cell (i := 2) rfl
    have hs3 := (BX7.out.below hb' BX7.out.lt).cell (i := 3) rfl
    have hsf := (BX7.out.below hb' BX7.out.lt).fz
    have hsl := (BX7.out.below hb' BX7.out.lt).lt
    clear hw'
    go_simp
    try rfl
  conv => arg 10; simp only [Act.put, List.setIfInBounds_toArray, List.set_cons_succ, List.set_cons_zero]
  refine Go.FreshS.wpF_readsG (by rfl) rfl rfl ?_ (fun w' hw' => ?_) ?_
  rotate_left
  · have hb' := hw'.world
    have hs0 := (BX1.out.below hb' BX1.out.lt).cell (i := 0) rfl
    have hs1 := (BX1.out.below hb' BX1.out.lt).cell (i := 1) rfl
    have hs2 := (BX1.out.below hb' BX1.out.lt).cell (i := 2) rfl
    have hs3 := (BX1.out.below hb' BX1.out.lt).cell (i := 3) rfl
    have hsf := (BX1.out.below hb' BX1.out.lt).fz
    have hsl := (BX1.out.below hb' BX1.out.lt).lt
    clear hw'
    go_simp
    try rfl
  conv => arg 10; simp only [Act.put, List.setIfInBounds_toArray, List.set_cons_succ, List.set_cons_zero]
  refine Go.FreshS.wpF_gspec (by rfl) rfl rfl (fun w' hw' => ?_) ?_
  · have hb' := hw'.world
    refine Go.FreshS.gives_of (Go.FreshS.PK (.bool true)) ?_ (fun _ _ h => h.post)
    go_simp
    have CT := leftFrac_any x1.t.s g1 x1.t.a x1.t.n x1.t.c o1 x1.l.s g2 x1.l.a x1.l.n x1.l.c o2 w' (HT1.out.below hb').rd (HR1.out.below (KG.out.trans (hb'.mono KG.out.size))) (by have := Bx1.out.1; omega) (HT2.out.below hb').rd (HR2.out.below (KG.out.trans (hb'.mono KG.out.size))) (by have := Bx1.out.2; omega)
    refine CT.mono ?_
    rintro e w'' ⟨rfl, hb⟩
    exact ⟨_, rfl, rfl, hb⟩
  rintro _ rfl
  conv => arg 10; simp only [Act.put, List.setIfInBounds_toArray, List.set_cons_succ, List.set_cons_zero]
  refine Go.FreshS.wpF_readsG (by rfl) rfl rfl ?_ (fun w' hw' => ?_) ?_
  rotate_left
  · have hb' := hw'.world
    skip
    clear hw'
    go_simp
    try rfl
  conv => arg 10; simp only [Act.put, List.setIfInBounds_toArray, List.set_cons_succ, List.set_cons_zero]
  refine Go.FreshS.wpF_nil (fun w19 hb hF => ?_)
  clear hF
  have HA := Lib.hid (HA.out.below hb)
  have HLS := Lib.hid (Nat.le_trans HLS.out hb.size)
  clear HT1
  clear HT2
  clear NX
  have N11 := Lib.hid (N11.out.below hb)
  clear N16
  clear BX1
  have BX7 := Lib.hid (BX7.out.below hb BX7.out.lt)
  have BX12 := Lib.hid (BX12.out.below hb BX12.out.lt)
  clear BX17
  have KG := Lib.hid (KG.out.trans (hb.mono KG.out.size))
  clear hb
  go_upto_region 8 with (fail)
  go_upto_region 9 with (fail)
  obtain ⟨W, hW⟩ : ∃ W, W = w19.alloc (.cells #[.int .i64 0, .slice none 0 0, .slice none 0 0, .slice none 0 0, .slice none 0 0, .slice none 0 0, .slice none 0 0, .slice none 0 0, .slice none 0 0, .slice none 0 0, .slice none 0 0, .slice none 0 0, .slice none 0 0] 48) := ⟨_, rfl⟩
  have HK := Lib.hid (book_nw w19)
  have HW := Lib.hid (show Below w19.heap.size w19 (w19.alloc (.cells #[.int .i64 0, .slice none 0 0, .slice none 0 0, .slice none 0 0, .slice none 0 0, .slice none 0 0, .slice none 0 0, .slice none 0 0, .slice none 0 0, .slice none 0 0, .slice none 0 0, .slice none 0 0, .slice none 0 0] 48)) from (Below.refl _ _).alloc (Nat.le_refl _) _)
  rw [← hW] at HK HW
  rw [show w19.alloc (.cells #[.int .i64 0, .slice none 0 0, .slice none 0 0, .slice none 0 0, .slice none 0 0, .slice none 0 0, .slice none 0 0, .slice none 0 0, .slice none 0 0, .slice none 0 0, .slice none 0 0, .slice none 0 0, .slice none 0 0] 48) = W from hW.symm]
  clear hW
  have HXN := Lib.hid (show LF x10 900000 from N11.out.k.len LQqs.out (by decide))
  obtain ⟨B, hB⟩ : ∃ B, B = w19.heap.size := ⟨_, rfl⟩
  rw [← hB] at HK HW
  rw [← hB]
  have HBe := Lib.hid hB
  clear hB
  have hbz : B ≤ W.heap.size := Nat.le_trans (by rw [HBe.out]; exact Nat.le_refl _) HW.out.size
  have hBX := BX7.out.below (by rw [← HBe.out]; exact HW.out) BX7.out.lt
  have y0 := hBX.cell (i := 0) rfl
  have y1 := hBX.cell (i := 1) rfl
  have y2 := hBX.cell (i := 2) rfl
  have y3 := hBX.cell (i := 3) rfl
  have x4 := hBX.fz
  have x5 := hBX.lt
  have NM := Lib.hid (bookFrac_any B 0 _ _ x1.t.s (some ⟨g1, 0, none⟩) x1.t.n (x1.t.n + 1) x1.l.s (some ⟨g2, 0, none⟩) x1.l.n (x1.l.n + 1) W (by omega) HK.out hbz)
  clear hBX
  go_wp2_with fail
  with_reducible refine NM.out.mono ?_
  rintro e W' hk
  obtain ⟨⟨u, rfl⟩, v', hk1, hk2⟩ := hk
  have HK := Lib.hid hk1
  have HW := Lib.hid (HW.out.trans hk2)
  clear hk1 hk2 NM y0 y1 y2 y3 x4 x5 hbz
  obtain ⟨W, rfl⟩ : ∃ W, W = W' := ⟨_, rfl⟩
  have hbz : B ≤ W.heap.size := Nat.le_trans (by rw [HBe.out]; exact Nat.le_refl _) HW.out.size
  have hBX := BX12.out.below (by rw [← HBe.out]; exact HW.out) BX12.out.lt
  have y0 := hBX.cell (i := 0) rfl
  have y1 := hBX.cell (i := 1) rfl
  have y2 := hBX.cell (i := 2) rfl
  have y3 := hBX.cell (i := 3) rfl
  have x4 := hBX.fz
  have x5 := hBX.lt
  have NM := Lib.hid (bookFrac_any B 2 _ _ x10.t.s x10.t.a x10.t.n x10.t.c x10.l.s x10.l.a x10.l.n x10.l.c W (by omega) HK.out hbz)
  clear hBX
  go_wp2_with fail
  with_reducible refine NM.out.mono ?_
  rintro e W' hk
  obtain ⟨⟨u, rfl⟩, v', hk1, hk2⟩ := hk
  have HK := Lib.hid hk1
  have HW := Lib.hid (HW.out.trans hk2)
  clear hk1 hk2 NM y0 y1 y2 y3 x4 x5 hbz
  obtain ⟨W, rfl⟩ : ∃ W, W = W' := ⟨_, rfl⟩
  have AP := Lib.hid (apart_own (w0 := w) HA.out HBe.out.symm HW.out HK.out rfl (Nat.zero_lt_succ 3) (show 4 ≤ 1000 by omega) (by
    intro x hx
    simp only [List.mem_cons, List.mem_nil_iff, or_false] at hx
    have h1 := Bx1.out
    have h2 := HXN.out
    rcases hx with rfl | rfl | rfl | rfl <;> dsimp only <;> omega) HLO.out (by rw [HBe.out]; exact HLS.out) (KG.out.trans (HW.out.mono (by rw [HBe.out]; exact KG.out.size))) (Nat.le_trans (Nat.le_trans KG.out.size (by rw [← HBe.out]; exact Nat.le_refl _)) (Nat.le_trans (by rw [HBe.out]; exact Nat.le_refl _) HW.out.size)))
  go_wp2_with fail
  with_reducible refine AP.out.mono ?_
  rintro e W' ⟨rfl, hb⟩
  have HF := Lib.hid hb
  clear hb AP
  go_wp2_with fail
  go_ret
  exact ⟨rfl, HF.out⟩
set_option maxRecDepth 100000 in
set_option maxHeartbeats 8000000 in
theorem texts_ok_cc {cc : Int} (x1 : FV) (o1 o2 : Nat → Int) (s : ByteArray) (w : World) (htab : Tab w) (hr1 : Rd w x1.t.a x1.t.n o1) (l1 : x1.t.n ≤ x1.t.c) (hr2 : Rd w x1.l.a x1.l.n o2) (l2 : x1.l.n ≤ x1.l.c) (b1 : LF x1 25) (hk : okF x1.t.s x1.t.n o1 x1.l.s x1.l.n o2) (hs : s.size ≤ 2000) (hc : codeF s.data.toList = cc) (hcz : cc ≠ 0) : Calls Tryz.prog 3 #[x1.v, .string s] w fun e w' => e = .returned (.bool true) ∧ Below w.heap.size w w' := by
  have HT := Lib.hid htab
  have KG := Lib.hid (Below.refl w.heap.size w)
  have HR1 := Lib.hid hr1
  have HR2 := Lib.hid hr2
  have Bx1 := Lib.hid b1
  have HOK := Lib.hid hk
  obtain ⟨p1, hp1⟩ : ∃ q, q = valF x1.t.s x1.t.n o1 x1.l.s x1.l.n o2 := ⟨_, rfl⟩
  have HP1 := Lib.hid hp1
  have N1 := Lib.hid (show KF w x1 p1 by rw [hp1]; exact KF.raw hr1 l1 hr2 l2 hk)
  have LQp1 := Lib.hid (N1.out.lq b1)
  obtain ⟨vd, hvd⟩ : ∃ b, b = decide ((p1.den : Int) = 1) := ⟨_, rfl⟩
  have HVD := Lib.hid hvd.symm
  obtain ⟨TA, hTA⟩ : ∃ t : ByteArray, t = ⟨(textQ p1).toArray⟩ := ⟨_, rfl⟩
  have HTA := Lib.hid hTA.symm
  clear hp1 hvd hTA
  have HS := Lib.hid hs
  have HSM := Lib.hid (show s.size ≤ 9223372036854775807 by omega)
  have HSM6 := Lib.hid (show s.size ≤ 9223372036854775806 by omega)
  have HC := Lib.hid hc
  have HCZ := Lib.hid hcz
  clear hs hc hcz
  clear htab hr1 hr2 l1 l2 b1 hk
  go_enter Tryz.func3, Tryz.ntmps3
  go_upto_region 1 with (fail)
  obtain ⟨v2, hV⟩ : ∃ V, V = w.alloc (.cells #[.bool x1.t.s, .slice x1.t.a x1.t.n x1.t.c, .bool x1.l.s, .slice x1.l.a x1.l.n x1.l.c] 26) := ⟨_, rfl⟩
  have hbV : Below w.heap.size w v2 := by rw [hV]; exact ((Below.refl _ _).alloc (Nat.le_refl _) _)
  have BX1 := Lib.hid (show Bxs v2 (w.heap.size) 26 [.bool x1.t.s, .slice x1.t.a x1.t.n x1.t.c, .bool x1.l.s, .slice x1.l.a x1.l.n x1.l.c] by have h := Bxs.new (w) 26 [.bool x1.t.s, .slice x1.t.a x1.t.n x1.t.c, .bool x1.l.s, .slice x1.l.a x1.l.n x1.l.c]; rw [hV]; exact h)
  rw [show w.alloc (.cells #[.bool x1.t.s, .slice x1.t.a x1.t.n x1.t.c, .bool x1.l.s, .slice x1.l.a x1.l.n x1.l.c] 26) = v2 from hV.symm]
  have KG := Lib.hid (KG.out.trans (hbV.mono KG.out.size))
  clear hV hbV
  have gs : ¬ ((s.size : Int) > 2000) := by have := HS.out; omega
  have cBX10 := BX1.out.cell (i := 0) rfl
  have cBX11 := BX1.out.cell (i := 1) rfl
  have cBX12 := BX1.out.cell (i := 2) rfl
  have cBX13 := BX1.out.cell (i := 3) rfl
  have cBX1f := BX1.out.fz
  have cBX1l := BX1.out.lt
  go_wp2_with fail
  clear cBX10 cBX11 cBX12 cBX13 cBX1f cBX1l
  obtain ⟨v4, hV⟩ : ∃ V, V = v2.alloc (.cells #[.bool x1.t.s, .slice x1.t.a x1.t.n x1.t.c, .bool x1.l.s, .slice x1.l.a x1.l.n x1.l.c] 26) := ⟨_, rfl⟩
  have hbV : Below v2.heap.size v2 v4 := by rw [hV]; exact ((Below.refl _ _).alloc (Nat.le_refl _) _)
  have BX3 := Lib.hid (show Bxs v4 (v2.heap.size) 26 [.bool x1.t.s, .slice x1.t.a x1.t.n x1.t.c, .bool x1.l.s, .slice x1.l.a x1.l.n x1.l.c] by have h := Bxs.new (v2) 26 [.bool x1.t.s, .slice x1.t.a x1.t.n x1.t.c, .bool x1.l.s, .slice x1.l.a x1.l.n x1.l.c]; rw [hV]; exact h)
  rw [show v2.alloc (.cells #[.bool x1.t.s, .slice x1.t.a x1.t.n x1.t.c, .bool x1.l.s, .slice x1.l.a x1.l.n x1.l.c] 26) = v4 from hV.symm]
  have BX1 := Lib.hid (BX1.out.below hbV BX1.out.lt)
  have KG := Lib.hid (KG.out.trans (hbV.mono KG.out.size))
  clear hV hbV
  have cBX10 := BX1.out.cell (i := 0) rfl
  have cBX11 := BX1.out.cell (i := 1) rfl
  have cBX12 := BX1.out.cell (i := 2) rfl
  have cBX13 := BX1.out.cell (i := 3) rfl
  have cBX1f := BX1.out.fz
  have cBX1l := BX1.out.lt
  have CT := Lib.hid (qgreat1 (M := 25) BX3.out)
  rw [show ((25 : Nat) : Int) = 25 from rfl, show decide ((25 < x1.t.n ∨ 25 < x1.l.n)) = false from decide_eq_false (by have g0 := (((N1.out.below KG.out)).len LQp1.out (by decide : _ ≤ 25)); omega)] at CT
  with_reducible refine CT.out.mono ?_
  rintro e w5 ⟨rfl, hb⟩
  clear CT
  clear cBX10 cBX11 cBX12 cBX13 cBX1f cBX1l
  have BX1 := Lib.hid (BX1.out.below hb BX1.out.lt)
  clear BX3
  have KG := Lib.hid (KG.out.trans (hb.mono KG.out.size))
  clear hb
  have cBX10 := BX1.out.cell (i := 0) rfl
  have cBX11 := BX1.out.cell (i := 1) rfl
  have cBX12 := BX1.out.cell (i := 2) rfl
  have cBX13 := BX1.out.cell (i := 3) rfl
  have cBX1f := BX1.out.fz
  have cBX1l := BX1.out.lt
  go_wp2_with fail
  have HA := Lib.hid (OwnAll.nil w5.heap.size w5)
  have HLS := Lib.hid (Nat.le_refl w5.heap.size)
  have HLO := Lib.hid (show w.heap.size ≤ w5.heap.size from KG.out.size)
  with_reducible refine (twinFrac_any x1.t.s x1.t.a x1.t.n x1.t.c o1 x1.l.s x1.l.a x1.l.n x1.l.c o2 w5 (HR1.out.below KG.out) (by have := Bx1.out.1; omega) (HR2.out.below KG.out) (by have := Bx1.out.2; omega)).mono ?_
  rintro e w6 ⟨g1, g2, rfl, hO1, hO2, hne, hb⟩
  have ho1 : Own 80 w6 w5.heap.size (some ⟨g1, 0, none⟩) x1.t.n (x1.t.n + 1) o1 := (hO1.less (by omega)).congr fun i hi => (if_pos hi)
  have ho2 : Own 80 w6 w5.heap.size (some ⟨g2, 0, none⟩) x1.l.n (x1.l.n + 1) o2 := (hO2.less (by omega)).congr fun i hi => (if_pos hi)
  have hap : Apart2 (some ⟨g1, 0, none⟩) (some ⟨g2, 0, none⟩) := fun p q hp hq e => by cases hp; cases hq; exact hne e
  have HT1 := Lib.hid hO1
  have HT2 := Lib.hid hO2
  have NX := Lib.hid (KF.raw (s1 := x1.t.s) (s2 := x1.l.s) ho1.rd ho1.le ho2.rd ho2.le HOK.out)
  rw [← HP1.out] at NX
  clear cBX10 cBX11 cBX12 cBX13 cBX1f cBX1l
  have hA1 := HA.out.more2 HLS.out hb (x := ⟨0, x1.t.s, some ⟨g1, 0, none⟩, x1.t.n, x1.t.n + 1, o1⟩) (y := ⟨0, x1.l.s, some ⟨g2, 0, none⟩, x1.l.n, x1.l.n + 1, o2⟩) ho1 ho2 hap
  have HA := Lib.hid hA1
  clear hA1
  simp only [List.nil_append, List.cons_append] at HA
  have HLS := Lib.hid (Nat.le_trans HLS.out hb.size)
  have BX1 := Lib.hid (BX1.out.below hb BX1.out.lt)
  have KG := Lib.hid (KG.out.trans (hb.mono KG.out.size))
  clear hb ho1 ho2 hap hne hO1 hO2
  go_upto_region 4 with (fail)
  obtain ⟨v8, hV⟩ : ∃ V, V = w6.alloc (.cells #[.bool x1.t.s, .slice (some ⟨g1, 0, none⟩) x1.t.n (x1.t.n + 1), .bool x1.l.s, .slice (some ⟨g2, 0, none⟩) x1.l.n (x1.l.n + 1)] 26) := ⟨_, rfl⟩
  have hbV : Below w6.heap.size w6 v8 := by rw [hV]; exact ((Below.refl _ _).alloc (Nat.le_refl _) _)
  have BX7 := Lib.hid (show Bxs v8 (w6.heap.size) 26 [.bool x1.t.s, .slice (some ⟨g1, 0, none⟩) x1.t.n (x1.t.n + 1), .bool x1.l.s, .slice (some ⟨g2, 0, none⟩) x1.l.n (x1.l.n + 1)] by have h := Bxs.new (w6) 26 [.bool x1.t.s, .slice (some ⟨g1, 0, none⟩) x1.t.n (x1.t.n + 1), .bool x1.l.s, .slice (some ⟨g2, 0, none⟩) x1.l.n (x1.l.n + 1)]; rw [hV]; exact h)
  rw [show w6.alloc (.cells #[.bool x1.t.s, .slice (some ⟨g1, 0, none⟩) x1.t.n (x1.t.n + 1), .bool x1.l.s, .slice (some ⟨g2, 0, none⟩) x1.l.n (x1.l.n + 1)] 26) = v8 from hV.symm]
  have HA := Lib.hid (HA.out.below hbV)
  have HLS := Lib.hid (Nat.le_trans HLS.out hbV.size)
  have HT1 := Lib.hid (HT1.out.below hbV)
  have HT2 := Lib.hid (HT2.out.below hbV)
  have NX := Lib.hid (NX.out.below hbV)
  have BX1 := Lib.hid (BX1.out.below hbV BX1.out.lt)
  have KG := Lib.hid (KG.out.trans (hbV.mono KG.out.size))
  clear hV hbV
  go_wp2_with fail
  have CT := Lib.hid (qparse_c v8 HSM.out HC.out HCZ.out)
  with_reducible refine CT.out.mono ?_
  rintro e w9 ⟨rfl, hb⟩
  clear CT
  have hA1 := HA.out.more2 HLS.out hb (x := ⟨0, false, none, 0, 0, fun _ => 0⟩) (y := ⟨0, false, none, 0, 0, fun _ => 0⟩) own0 own0 (fun p q hp => by cases hp)
  have HA := Lib.hid hA1
  clear hA1
  simp only [List.nil_append, List.cons_append] at HA
  have HLS := Lib.hid (Nat.le_trans HLS.out hb.size)
  have HT1 := Lib.hid (HT1.out.below hb)
  have HT2 := Lib.hid (HT2.out.below hb)
  have NX := Lib.hid (NX.out.below hb)
  have BX1 := Lib.hid (BX1.out.below hb BX1.out.lt)
  have BX7 := Lib.hid (BX7.out.below hb BX7.out.lt)
  have KG := Lib.hid (KG.out.trans (hb.mono KG.out.size))
  clear hb
  go_upto_region 5 with (fail)
  obtain ⟨v11, hV⟩ : ∃ V, V = w9.alloc (.cells #[.bool false, .slice none 0 0, .bool false, .slice none 0 0] 26) := ⟨_, rfl⟩
  have hbV : Below w9.heap.size w9 v11 := by rw [hV]; exact ((Below.refl _ _).alloc (Nat.le_refl _) _)
  have BX10 := Lib.hid (show Bxs v11 (w9.heap.size) 26 [.bool false, .slice none 0 0, .bool false, .slice none 0 0] by have h := Bxs.new (w9) 26 [.bool false, .slice none 0 0, .bool false, .slice none 0 0]; rw [hV]; exact h)
  rw [show w9.alloc (.cells #[.bool false, .slice none 0 0, .bool false, .slice none 0 0] 26) = v11 from hV.symm]
  have HA := Lib.hid (HA.out.below hbV)
  have HLS := Lib.hid (Nat.le_trans HLS.out hbV.size)
  have HT1 := Lib.hid (HT1.out.below hbV)
  have HT2 := Lib.hid (HT2.out.below hbV)
  have NX := Lib.hid (NX.out.below hbV)
  have BX1 := Lib.hid (BX1.out.below hbV BX1.out.lt)
  have BX7 := Lib.hid (BX7.out.below hbV BX7.out.lt)
  have KG := Lib.hid (KG.out.trans (hbV.mono KG.out.size))
  clear hV hbV
  go_wp2_with fail
  have CT := Lib.hid (rq_c v11 HSM6.out HC.out HCZ.out)
  with_reducible refine CT.out.mono ?_
  rintro e w12 ⟨rfl, hb⟩
  clear CT
  have HA := Lib.hid (HA.out.below hb)
  have HLS := Lib.hid (Nat.le_trans HLS.out hb.size)
  have HT1 := Lib.hid (HT1.out.below hb)
  have HT2 := Lib.hid (HT2.out.below hb)
  have NX := Lib.hid (NX.out.below hb)
  have BX1 := Lib.hid (BX1.out.below hb BX1.out.lt)
  have BX7 := Lib.hid (BX7.out.below hb BX7.out.lt)
  have BX10 := Lib.hid (BX10.out.below hb BX10.out.lt)
  have KG := Lib.hid (KG.out.trans (hb.mono KG.out.size))
  clear hb
  go_upto_region 6 with (fail)
  obtain ⟨v14, hV⟩ : ∃ V, V = w12.alloc (.cells #[.bool false, .slice none 0 0, .bool false, .slice none 0 0] 26) := ⟨_, rfl⟩
  have hbV : Below w12.heap.size w12 v14 := by rw [hV]; exact ((Below.refl _ _).alloc (Nat.le_refl _) _)
  have BX13 := Lib.hid (show Bxs v14 (w12.heap.size) 26 [.bool false, .slice none 0 0, .bool false, .slice none 0 0] by have h := Bxs.new (w12) 26 [.bool false, .slice none 0 0, .bool false, .slice none 0 0]; rw [hV]; exact h)
  rw [show w12.alloc (.cells #[.bool false, .slice none 0 0, .bool false, .slice none 0 0] 26) = v14 from hV.symm]
  have HA := Lib.hid (HA.out.below hbV)
  have HLS := Lib.hid (Nat.le_trans HLS.out hbV.size)
  have HT1 := Lib.hid (HT1.out.below hbV)
  have HT2 := Lib.hid (HT2.out.below hbV)
  have NX := Lib.hid (NX.out.below hbV)
  have BX1 := Lib.hid (BX1.out.below hbV BX1.out.lt)
  have BX7 := Lib.hid (BX7.out.below hbV BX7.out.lt)
  have BX10 := Lib.hid (BX10.out.below hbV BX10.out.lt)
  have KG := Lib.hid (KG.out.trans (hbV.mono KG.out.size))
  clear hV hbV
  go_upto_region 6 with (fail)
  refine Go.FreshS.wp_region_fresh 35 [] (Go.FreshS.spOf [(1, Go.FreshS.Sp.know (.bool true)), (3, Go.FreshS.Sp.know (.bool true)), (7, Go.FreshS.Sp.know (.bool vd)), (9, Go.FreshS.Sp.know (.bool vd)), (14, Go.FreshS.Sp.know (.string TA)), (16, Go.FreshS.Sp.know (.string TA)), (22, Go.FreshS.Sp.know (.bool true)), (33, Go.FreshS.Sp.know (.bool true))])
    (fun w' => Below v14.heap.size v14 w') (by kernel_rfl) (by kernel_rfl) (by kernel_rfl)
    (Go.FreshS.spOf_cons (Go.FreshS.Sp.know_keeps _ _) (Go.FreshS.spOf_cons (Go.FreshS.Sp.know_keeps _ _) (Go.FreshS.spOf_cons (Go.FreshS.Sp.know_keeps _ _) (Go.FreshS.spOf_cons (Go.FreshS.Sp.know_keeps _ _) (Go.FreshS.spOf_cons (Go.FreshS.Sp.know_keeps _ _) (Go.FreshS.spOf_cons (Go.FreshS.Sp.know_keeps _ _) (Go.FreshS.spOf_cons (Go.FreshS.Sp.know_keeps _ _) (Go.FreshS.spOf_cons (Go.FreshS.Sp.know_keeps _ _) (Go.FreshS.spOf_nil))))))))) (fun _ _ h hb => h.trans (hb.mono h.size)) ((Below.refl _ _).drew) ?_
  simp only [List.append_eq, List.cons_append, List.nil_append, List.take_succ_cons, List.take_zero, List.drop_succ_cons, List.drop_zero]
  refine Go.FreshS.wpF_reads rfl rfl rfl ?_ (fun w' hw' => ?_) ?_
  rotate_left
  · have hb' := hw'.world
    have hs0 := (BX7.out.below hb' BX7.out.lt).cell (i := 0) rfl
    have hs1 := (BX7.out.below hb' BX7.out.lt).cell (i := 1) rfl
    have hs2 := (BX7.out.below hb' BX7.out.lt).cell (i := 2) rfl
    have hs3 := (BX7.out.below hb' BX7.out.lt).cell (i := 3) rfl
    have hsf := (BX7.out.below hb' BX7.out.lt).fz
    have hsl := (BX7.out.below hb' BX7.out.lt).lt
    clear hw'
    go_simp
    try rfl
  conv => arg 10; simp only [Act.put, List.setIfInBounds_toArray, List.set_cons_succ, List.set_cons_zero]
  refine Go.FreshS.wpF_spec rfl rfl rfl (fun w' hw' => ?_) ?_
  · have hb' := hw'.world
    refine Go.FreshS.gives_of (Go.FreshS.PK (.bool true)) ?_ (fun _ _ h => h.post)
    go_simp
    have CT := qcheck (NX.out.below hb') (((NX.out.below hb')).len LQp1.out (by decide : _ ≤ 900000))
    refine CT.mono ?_
    rintro e w'' ⟨rfl, hb⟩
    exact ⟨_, rfl, rfl, hb⟩
  rintro _ rfl
  conv => arg 10; simp only [Act.put, List.setIfInBounds_toArray, List.set_cons_succ, List.set_cons_zero]
  refine Go.FreshS.wpF_reads rfl rfl rfl ?_ (fun w' hw' => ?_) ?_
  rotate_left
  · have hb' := hw'.world
    have hs0 := (BX1.out.below hb' BX1.out.lt).cell (i := 0) rfl
    have hs1 := (BX1.out.below hb' BX1.out.lt).cell (i := 1) rfl
    have hs2 := (BX1.out.below hb' BX1.out.lt).cell (i := 2) rfl
    have hs3 := (BX1.out.below hb' BX1.out.lt).cell (i := 3) rfl
    have hsf := (BX1.out.below hb' BX1.out.lt).fz
    have hsl := (BX1.out.below hb' BX1.out.lt).lt
    clear hw'
    go_simp
    try rfl
  conv => arg 10; simp only [Act.put, List.setIfInBounds_toArray, List.set_cons_succ, List.set_cons_zero]
  refine Go.FreshS.wpF_spec rfl rfl rfl (fun w' hw' => ?_) ?_
  · have hb' := hw'.world
    refine Go.FreshS.gives_of (Go.FreshS.PK (.bool true)) ?_ (fun _ _ h => h.post)
    go_simp
    have CT := rcheckQ (N1.out.below (KG.out.trans (hb'.mono KG.out.size))) (((N1.out.below (KG.out.trans (hb'.mono KG.out.size)))).len LQp1.out (by decide : _ ≤ 900000))
    refine CT.mono ?_
    rintro e w'' ⟨rfl, hb⟩
    exact ⟨_, rfl, rfl, hb⟩
  rintro _ rfl
  conv => arg 10; simp only [Act.put, List.setIfInBounds_toArray, List.set_cons_succ, List.set_cons_zero]
  refine Go.FreshS.wpF_reads rfl rfl rfl ?_ (fun w' hw' => ?_) ?_
  rotate_left
  · have hb' := hw'.world
    skip
    clear hw'
    go_simp
    try rfl
  conv => arg 10; simp only [Act.put, List.setIfInBounds_toArray, List.set_cons_succ, List.set_cons_zero]
  refine Go.FreshS.wpF_reads rfl rfl rfl ?_ (fun w' hw' => ?_) ?_
  rotate_left
  · have hb' := hw'.world
    skip
    clear hw'
    go_simp
    try rfl
  conv => arg 10; simp only [Act.put, List.setIfInBounds_toArray, List.set_cons_succ, List.set_cons_zero]
  refine Go.FreshS.wpF_readsG (by rfl) rfl rfl ?_ (fun w' hw' => ?_) ?_
  rotate_left
  · have hb' := hw'.world
    have hs0 := (BX7.out.below hb' BX7.out.lt).cell (i := 0) rfl
    have hs1 := (BX7.out.below hb' BX7.out.lt).cell (i := 1) rfl
    have hs2 := (BX7.out.below hb' BX7.out.lt).cell (i := 2) rfl
    have hs3 := (BX7.out.below hb' BX7.out.lt).cell (i := 3) rfl
    have hsf := (BX7.out.below hb' BX7.out.lt).fz
    have hsl := (BX7.out.below hb' BX7.out.lt).lt
    clear hw'
    go_simp
    try rfl
  conv => arg 10; simp only [Act.put, List.setIfInBounds_toArray, List.set_cons_succ, List.set_cons_zero]
  refine Go.FreshS.wpF_gspec (by rfl) rfl rfl (fun w' hw' => ?_) ?_
  · have hb' := hw'.world
    refine Go.FreshS.gives_of (Go.FreshS.PK (.bool vd)) ?_ (fun _ _ h => h.post)
    go_simp
    have CT := qwhole (⟨⟨x1.t.s, some ⟨g1, 0, none⟩, x1.t.n, x1.t.n + 1⟩, ⟨x1.l.s, some ⟨g2, 0, none⟩, x1.l.n, x1.l.n + 1⟩⟩ : FV) p1 w' ((NX.out.below hb')).any (((NX.out.below hb')).len LQp1.out (by decide : _ ≤ 100)) (LQp1.out.up (by decide : _ ≤ 101))
    rw [show decide ((p1.den : Int) = 1) = vd from HVD.out] at CT
    refine CT.mono ?_
    rintro e w'' ⟨rfl, hb⟩
    exact ⟨_, rfl, rfl, hb⟩
  rintro _ rfl
  conv => arg 10; simp only [Act.put, List.setIfInBounds_toArray, List.set_cons_succ, List.set_cons_zero]
  refine Go.FreshS.wpF_readsG (by rfl) rfl rfl ?_ (fun w' hw' => ?_) ?_
  rotate_left
  · have hb' := hw'.world
    have hs0 := (BX1.out.below hb' BX1.out.lt).cell (i := 0) rfl
    have hs1 := (BX1.out.below hb' BX1.out.lt).cell (i := 1) rfl
    have hs2 := (BX1.out.below hb' BX1.out.lt).cell (i := 2) rfl
    have hs3 := (BX1.out.below hb' BX1.out.lt).cell (i := 3) rfl
    have hsf := (BX1.out.below hb' BX1.out.lt).fz
    have hsl := (BX1.out.below hb' BX1.out.lt).lt
    clear hw'
    go_simp
    try rfl
  conv => arg 10; simp only [Act.put, List.setIfInBounds_toArray, List.set_cons_succ, List.set_cons_zero]
  refine Go.FreshS.wpF_gspec (by rfl) rfl rfl (fun w' hw' => ?_) ?_
  · have hb' := hw'.world
    refine Go.FreshS.gives_of (Go.FreshS.PK (.bool vd)) ?_ (fun _ _ h => h.post)
    go_simp
    have CT := rwholeQ x1 p1 w' ((N1.out.below (KG.out.trans (hb'.mono KG.out.size)))).any (((N1.out.below (KG.out.trans (hb'.mono KG.out.size)))).len LQp1.out (by decide : _ ≤ 100)) (LQp1.out.up (by decide : _ ≤ 101))
    rw [show decide ((p1.den : Int) = 1) = vd from HVD.out] at CT
    refine CT.mono ?_
    rintro e w'' ⟨rfl, hb⟩
    exact ⟨_, rfl, rfl, hb⟩
  rintro _ rfl
  conv => arg 10; simp only [Act.put, List.setIfInBounds_toArray, List.set_cons_succ, List.set_cons_zero]
  refine Go.FreshS.wpF_readsG (by rfl) rfl rfl ?_ (fun w' hw' => ?_) ?_
  rotate_left
  · have hb' := hw'.world
    skip
    clear hw'
    go_simp
    try rfl
  conv => arg 10; simp only [Act.put, List.setIfInBounds_toArray, List.set_cons_succ, List.set_cons_zero]
  refine Go.FreshS.wpF_reads rfl rfl rfl ?_ (fun w' hw' => ?_) ?_
  rotate_left
  · have hb' := hw'.world
    skip
    clear hw'
    go_simp
    try rfl
  conv => arg 10; simp only [Act.put, List.setIfInBounds_toArray, List.set_cons_succ, List.set_cons_zero]
  refine Go.FreshS.wpF_reads rfl rfl rfl ?_ (fun w' hw' => ?_) ?_
  rotate_left
  · have hb' := hw'.world
    skip
    clear hw'
    go_simp
    try rfl
  conv => arg 10; simp only [Act.put, List.setIfInBounds_toArray, List.set_cons_succ, List.set_cons_zero]
  refine Go.FreshS.wpF_readsG (by rfl) rfl rfl ?_ (fun w' hw' => ?_) ?_
  rotate_left
  · have hb' := hw'.world
    have hs0 := (BX7.out.below hb' BX7.out.lt).cell (i := 0) rfl
    have hs1 := (BX7.out.below hb' BX7.out.lt).cell (i := 1) rfl
    have hs2 := (BX7.out.below hb' BX7.out.lt).cell (i := 2) rfl
    have hs3 := (BX7.out.below hb' BX7.out.lt).cell (i := 3) rfl
    have hsf := (BX7.out.below hb' BX7.out.lt).fz
    have hsl := (BX7.out.below hb' BX7.out.lt).lt
    clear hw'
    go_simp
    try rfl
  conv => arg 10; simp only [Act.put, List.setIfInBounds_toArray, List.set_cons_succ, List.set_cons_zero]
  refine Go.FreshS.wpF_gspec (by rfl) rfl rfl (fun w' hw' => ?_) ?_
  · have hb' := hw'.world
    refine Go.FreshS.gives_of (Go.FreshS.PK (.string TA)) ?_ (fun _ _ h => h.post)
    go_simp
    have CT := qtextA' (⟨⟨x1.t.s, some ⟨g1, 0, none⟩, x1.t.n, x1.t.n + 1⟩, ⟨x1.l.s, some ⟨g2, 0, none⟩, x1.l.n, x1.l.n + 1⟩⟩ : FV) p1 w' (HT.out.on (KG.out.trans (hb'.mono KG.out.size))) ((NX.out.below hb')).any (((NX.out.below hb')).len LQp1.out (by decide : _ ≤ 100)) (LQp1.out.up (by decide : _ ≤ 101))
    rw [show (⟨(textQ p1).toArray⟩ : ByteArray) = TA from HTA.out] at CT
    refine CT.mono ?_
    rintro e w'' ⟨rfl, hb⟩
    exact ⟨_, rfl, rfl, hb⟩
  rintro _ rfl
  conv => arg 10; simp only [Act.put, List.setIfInBounds_toArray, List.set_cons_succ, List.set_cons_zero]
  refine Go.FreshS.wpF_readsG (by rfl) rfl rfl ?_ (fun w' hw' => ?_) ?_
  rotate_left
  · have hb' := hw'.world
    have hs0 := (BX1.out.below hb' BX1.out.lt).cell (i := 0) rfl
    have hs1 := (BX1.out.below hb' BX1.out.lt).cell (i := 1) rfl
    have hs2 := (BX1.out.below hb' BX1.out.lt).cell (i := 2) rfl
    have hs3 := (BX1.out.below hb' BX1.out.lt).cell (i := 3) rfl
    have hsf := (BX1.out.below hb' BX1.out.lt).fz
    have hsl := (BX1.out.below hb' BX1.out.lt).lt
    clear hw'
    go_simp
    try rfl
  conv => arg 10; simp only [Act.put, List.setIfInBounds_toArray, List.set_cons_succ, List.set_cons_zero]
  refine Go.FreshS.wpF_gspec (by rfl) rfl rfl (fun w' hw' => ?_) ?_
  · have hb' := hw'.world
    refine Go.FreshS.gives_of (Go.FreshS.PK (.string TA)) ?_ (fun _ _ h => h.post)
    go_simp
    have CT := rtextQ x1 p1 w' ((N1.out.below (KG.out.trans (hb'.mono KG.out.size)))).any (((N1.out.below (KG.out.trans (hb'.mono KG.out.size)))).len LQp1.out (by decide : _ ≤ 100)) (LQp1.out.up (by decide : _ ≤ 101))
    rw [show (⟨(textQ p1).toArray⟩ : ByteArray) = TA from HTA.out] at CT
    refine CT.mono ?_
    rintro e w'' ⟨rfl, hb⟩
    exact ⟨_, rfl, rfl, hb⟩
  rintro _ rfl
  conv => arg 10; simp only [Act.put, List.setIfInBounds_toArray, List.set_cons_succ, List.set_cons_zero]
  refine Go.FreshS.wpF_readsG (by rfl) rfl rfl ?_ (fun w' hw' => ?_) ?_
  rotate_left
  · have hb' := hw'.world
    skip
    clear hw'
    go_simp
    try rfl
  conv => arg 10; simp only [Act.put, List.setIfInBounds_toArray, List.set_cons_succ, List.set_cons_zero]
  refine Go.FreshS.wpF_reads rfl rfl rfl ?_ (fun w' hw' => ?_) ?_
  rotate_left
  · have hb' := hw'.world
    skip
    clear hw'
    go_simp
    try rfl
  conv => arg 10; simp only [Act.put, List.setIfInBounds_toArray, List.set_cons_succ, List.set_cons_zero]
  refine Go.FreshS.wpF_reads rfl rfl rfl ?_ (fun w' hw' => ?_) ?_
  rotate_left
  · have hb' := hw'.world
    skip
    clear hw'
    go_simp
    try rfl
  conv => arg 10; simp only [Act.put, List.setIfInBounds_toArray, List.set_cons_succ, List.set_cons_zero]
  refine Go.FreshS.wpF_readsG (by rfl) rfl rfl ?_ (fun w' hw' => ?_) ?_
  rotate_left
  · have hb' := hw'.world
    have hs0 := (BX10.out.below hb' BX10.out.lt).cell (i := 0) rfl
    have hs1 := (BX10.out.below hb' BX10.out.lt).cell (i := 1) rfl
    have hs2 := (BX10.out.below hb' BX10.out.lt).cell (i := 2) rfl
    have hs3 := (BX10.out.below hb' BX10.out.lt).cell (i := 3) rfl
    have hsf := (BX10.out.below hb' BX10.out.lt).fz
    have hsl := (BX10.out.below hb' BX10.out.lt).lt
    clear hw'
    go_simp
    try rfl
  conv => arg 10; simp only [Act.put, List.setIfInBounds_toArray, List.set_cons_succ, List.set_cons_zero]
  refine Go.FreshS.wpF_readsG (by rfl) rfl rfl ?_ (fun w' hw' => ?_) ?_
  rotate_left
  · have hb' := hw'.world
    have hs0 := (BX13.out.below hb' BX13.out.lt).cell (i := 0) rfl
    have hs1 := (BX13.out.below hb' BX13.out.lt).cell (i := 1) rfl
    have hs2 := (BX13.out.below hb' BX13.out.lt).cell (i := 2) rfl
    have hs3 := (BX13.out.below hb' BX13.out.lt).cell (i := 3) rfl
    have hsf := (BX13.out.below hb' BX13.out.lt).fz
    have hsl := (BX13.out.below hb' BX13.out.lt).lt
    clear hw'
    go_simp
    try rfl
  conv => arg 10; simp only [Act.put, List.setIfInBounds_toArray, List.set_cons_succ, List.set_cons_zero]
  refine Go.FreshS.wpF_gspec (by rfl) rfl rfl (fun w' hw' => ?_) ?_
  · have hb' := hw'.world
    refine Go.FreshS.gives_of (Go.FreshS.PK (.bool true)) ?_ (fun _ _ h => h.post)
    go_simp
    have CT := qsame0 w'
    refine CT.mono ?_
    rintro e w'' ⟨rfl, hb⟩
    exact ⟨_, rfl, rfl, hb⟩
  rintro _ rfl
  conv => arg 10; simp only [Act.put, List.setIfInBounds_toArray, List.set_cons_succ, List.set_cons_zero]
  refine Go.FreshS.wpF_readsG (by rfl) rfl rfl ?_ (fun w' hw' => ?_) ?_
  rotate_left
  · have hb' := hw'.world
    skip
    clear hw'
    go_simp
    try rfl
  conv => arg 10; simp only [Act.put, List.setIfInBounds_toArray, List.set_cons_succ, List.set_cons_zero]
  refine Go.FreshS.wpF_reads rfl rfl rfl ?_ (fun w' hw' => ?_) ?_
  rotate_left
  · have hb' := hw'.world
    skip
    clear hw'
    go_simp
    try rfl
  conv => arg 10; simp only [Act.put, List.setIfInBounds_toArray, List.set_cons_succ, List.set_cons_zero]
  refine Go.FreshS.wpF_reads rfl rfl rfl ?_ (fun w' hw' => ?_) ?_
  rotate_left
  · have hb' := hw'.world
    skip
    clear hw'
    go_simp
    try rfl
  conv => arg 10; simp only [Act.put, List.setIfInBounds_toArray, List.set_cons_succ, List.set_cons_zero]
  refine Go.FreshS.wpF_readsG (by rfl) rfl rfl ?_ (fun w' hw' => ?_) ?_
  rotate_left
  · have hb' := hw'.world
    skip
    clear hw'
    go_simp
    try rfl
  conv => arg 10; simp only [Act.put, List.setIfInBounds_toArray, List.set_cons_succ, List.set_cons_zero]
  refine Go.FreshS.wpF_readsG (by rfl) rfl rfl ?_ (fun w' hw' => ?_) ?_
  rotate_left
  · have hb' := hw'.world
    skip
    clear hw'
    go_simp
    try rfl
  conv => arg 10; simp only [Act.put, List.setIfInBounds_toArray, List.set_cons_succ, List.set_cons_zero]
  refine Go.FreshS.wpF_readsG (by rfl) rfl rfl ?_ (fun w' hw' => ?_) ?_
  rotate_left
  · have hb' := hw'.world
    skip
    clear hw'
    go_simp
    try rfl
  conv => arg 10; simp only [Act.put, List.setIfInBounds_toArray, List.set_cons_succ, List.set_cons_zero]
  refine Go.FreshS.wpF_reads rfl rfl rfl ?_ (fun w' hw' => ?_) ?_
  rotate_left
  · have hb' := hw'.world
    skip
    clear hw'
    go_simp
    try rfl
  conv => arg 10; simp only [Act.put, List.setIfInBounds_toArray, List.set_cons_succ, List.set_cons_zero]
  refine Go.FreshS.wpF_reads rfl rfl rfl ?_ (fun w' hw' => ?_) ?_
  rotate_left
  · have hb' := hw'.world
    skip
    clear hw'
    go_simp
    try rfl
  conv => arg 10; simp only [Act.put, List.setIfInBounds_toArray, List.set_cons_succ, List.set_cons_zero]
  refine Go.FreshS.wpF_readsG (by rfl) rfl rfl ?_ (fun w' hw' => ?_) ?_
  rotate_left
  · have hb' := hw'.world
    have hs0 := (BX7.out.below hb' BX7.out.lt).cell (i := 0) rfl
    have hs1 := (BX7.out.below hb' BX7.out.lt).cell (i := 1) rfl
    have hs2 := (BX7.out.below hb' BX7.out.lt).cell (i := 2) rfl
    have hs3 := (BX7.out.below hb' BX7.out.lt).cell (i := 3) rfl
    have hsf := (BX7.out.below hb' BX7.out.lt).fz
    have hsl := (BX7.out.below hb' BX7.out.lt).lt
    clear hw'
    go_simp
    try rfl
  conv => arg 10; simp only [Act.put, List.setIfInBounds_toArray, List.set_cons_succ, List.set_cons_zero]
  refine Go.FreshS.wpF_readsG (by rfl) rfl rfl ?_ (fun w' hw' => ?_) ?_
  rotate_left
  · have hb' := hw'.world
    have hs0 := (BX1.out.below hb' BX1.out.lt).cell (i := 0) rfl
    have hs1 := (BX1.out.below hb' BX1.out.lt).cell (i := 1) rfl
    have hs2 := (BX1.out.below hb' BX1.out.lt).cell (i := 2) rfl
    have hs3 := (BX1.out.below hb' BX1.out.lt).cell (i := 3) rfl
    have hsf := (BX1.out.below hb' BX1.out.lt).fz
    have hsl := (BX1.out.below hb' BX1.out.lt).lt
    clear hw'
    go_simp
    try rfl
  conv => arg 10; simp only [Act.put, List.setIfInBounds_toArray, List.set_cons_succ, List.set_cons_zero]
  refine Go.FreshS.wpF_gspec (by rfl) rfl rfl (fun w' hw' => ?_) ?_
  · have hb' := hw'.world
    refine Go.FreshS.gives_of (Go.FreshS.PK (.bool true)) ?_ (fun _ _ h => h.post)
    go_simp
    have CT := leftFrac_any x1.t.s g1 x1.t.a x1.t.n x1.t.c o1 x1.l.s g2 x1.l.a x1.l.n x1.l.c o2 w' (HT1.out.below hb').rd (HR1.out.below (KG.out.trans (hb'.mono KG.out.size))) (by have := Bx1.out.1; omega) (HT2.out.below hb').rd (HR2.out.below (KG.out.trans (hb'.mono KG.out.size))) (by have := Bx1.out.2; omega)
    refine CT.mono ?_
    rintro e w'' ⟨rfl, hb⟩
    exact ⟨_, rfl, rfl, hb⟩
  rintro _ rfl
  conv => arg 10; simp only [Act.put, List.setIfInBounds_toArray, List.set_cons_succ, List.set_cons_zero]
  refine Go.FreshS.wpF_readsG (by rfl) rfl rfl ?_ (fun w' hw' => ?_) ?_
  rotate_left
  · have hb' := hw'.world
    skip
    clear hw'
    go_simp
    try rfl
  conv => arg 10; simp only [Act.put, List.setIfInBounds_toArray, List.set_cons_succ, List.set_cons_zero]
  refine Go.FreshS.wpF_nil (fun w15 hb hF => ?_)
  clear hF
  have HA := Lib.hid (HA.out.below hb)
  have HLS := Lib.hid (Nat.le_trans HLS.out hb.size)
  clear HT1
  clear HT2
  clear NX
  clear BX1
  have BX7 := Lib.hid (BX7.out.below hb BX7.out.lt)
  have BX10 := Lib.hid (BX10.out.below hb BX10.out.lt)
  clear BX13
  have KG := Lib.hid (KG.out.trans (hb.mono KG.out.size))
  clear hb
  go_upto_region 8 with (fail)
  go_upto_region 9 with (fail)
  obtain ⟨W, hW⟩ : ∃ W, W = w15.alloc (.cells #[.int .i64 0, .slice none 0 0, .slice none 0 0, .slice none 0 0, .slice none 0 0, .slice none 0 0, .slice none 0 0, .slice none 0 0, .slice none 0 0, .slice none 0 0, .slice none 0 0, .slice none 0 0, .slice none 0 0] 48) := ⟨_, rfl⟩
  have HK := Lib.hid (book_nw w15)
  have HW := Lib.hid (show Below w15.heap.size w15 (w15.alloc (.cells #[.int .i64 0, .slice none 0 0, .slice none 0 0, .slice none 0 0, .slice none 0 0, .slice none 0 0, .slice none 0 0, .slice none 0 0, .slice none 0 0, .slice none 0 0, .slice none 0 0, .slice none 0 0, .slice none 0 0] 48)) from (Below.refl _ _).alloc (Nat.le_refl _) _)
  rw [← hW] at HK HW
  rw [show w15.alloc (.cells #[.int .i64 0, .slice none 0 0, .slice none 0 0, .slice none 0 0, .slice none 0 0, .slice none 0 0, .slice none 0 0, .slice none 0 0, .slice none 0 0, .slice none 0 0, .slice none 0 0, .slice none 0 0, .slice none 0 0] 48) = W from hW.symm]
  clear hW
  obtain ⟨B, hB⟩ : ∃ B, B = w15.heap.size := ⟨_, rfl⟩
  rw [← hB] at HK HW
  rw [← hB]
  have HBe := Lib.hid hB
  clear hB
  have hbz : B ≤ W.heap.size := Nat.le_trans (by rw [HBe.out]; exact Nat.le_refl _) HW.out.size
  have hBX := BX7.out.below (by rw [← HBe.out]; exact HW.out) BX7.out.lt
  have y0 := hBX.cell (i := 0) rfl
  have y1 := hBX.cell (i := 1) rfl
  have y2 := hBX.cell (i := 2) rfl
  have y3 := hBX.cell (i := 3) rfl
  have x4 := hBX.fz
  have x5 := hBX.lt
  have NM := Lib.hid (bookFrac_any B 0 _ _ x1.t.s (some ⟨g1, 0, none⟩) x1.t.n (x1.t.n + 1) x1.l.s (some ⟨g2, 0, none⟩) x1.l.n (x1.l.n + 1) W (by omega) HK.out hbz)
  clear hBX
  go_wp2_with fail
  with_reducible refine NM.out.mono ?_
  rintro e W' hk
  obtain ⟨⟨u, rfl⟩, v', hk1, hk2⟩ := hk
  have HK := Lib.hid hk1
  have HW := Lib.hid (HW.out.trans hk2)
  clear hk1 hk2 NM y0 y1 y2 y3 x4 x5 hbz
  obtain ⟨W, rfl⟩ : ∃ W, W = W' := ⟨_, rfl⟩
  have hbz : B ≤ W.heap.size := Nat.le_trans (by rw [HBe.out]; exact Nat.le_refl _) HW.out.size
  have hBX := BX10.out.below (by rw [← HBe.out]; exact HW.out) BX10.out.lt
  have y0 := hBX.cell (i := 0) rfl
  have y1 := hBX.cell (i := 1) rfl
  have y2 := hBX.cell (i := 2) rfl
  have y3 := hBX.cell (i := 3) rfl
  have x4 := hBX.fz
  have x5 := hBX.lt
  have NM := Lib.hid (bookFrac_any B 2 _ _ false none 0 0 false none 0 0 W (by omega) HK.out hbz)
  clear hBX
  go_wp2_with fail
  with_reducible refine NM.out.mono ?_
  rintro e W' hk
  obtain ⟨⟨u, rfl⟩, v', hk1, hk2⟩ := hk
  have HK := Lib.hid hk1
  have HW := Lib.hid (HW.out.trans hk2)
  clear hk1 hk2 NM y0 y1 y2 y3 x4 x5 hbz
  obtain ⟨W, rfl⟩ : ∃ W, W = W' := ⟨_, rfl⟩
  have AP := Lib.hid (apart_own (w0 := w) HA.out HBe.out.symm HW.out HK.out rfl (Nat.zero_lt_succ 3) (show 4 ≤ 1000 by omega) (by
    intro x hx
    simp only [List.mem_cons, List.mem_nil_iff, or_false] at hx
    have h1 := Bx1.out
    rcases hx with rfl | rfl | rfl | rfl <;> dsimp only <;> omega) HLO.out (by rw [HBe.out]; exact HLS.out) (KG.out.trans (HW.out.mono (by rw [HBe.out]; exact KG.out.size))) (Nat.le_trans (Nat.le_trans KG.out.size (by rw [← HBe.out]; exact Nat.le_refl _)) (Nat.le_trans (by rw [HBe.out]; exact Nat.le_refl _) HW.out.size)))
  go_wp2_with fail
  with_reducible refine AP.out.mono ?_
  rintro e W' ⟨rfl, hb⟩
  have HF := Lib.hid hb
  clear hb AP
  go_wp2_with fail
  go_ret
  exact ⟨rfl, HF.out⟩
set_option maxRecDepth 100000 in
set_option maxHeartbeats 8000000 in
theorem texts_long_bad (x1 : FV) (o1 o2 : Nat → Int) (s : ByteArray) (w : World) (htab : Tab w) (hr1 : Rd w x1.t.a x1.t.n o1) (l1 : x1.t.n ≤ x1.t.c) (hr2 : Rd w x1.l.a x1.l.n o2) (l2 : x1.l.n ≤ x1.l.c) (b1 : LF x1 25) (hk : ¬ okF x1.t.s x1.t.n o1 x1.l.s x1.l.n o2) (hs : 2000 < s.size) : Calls Tryz.prog 3 #[x1.v, .string s] w fun e w' => e = .returned (.bool true) ∧ Below w.heap.size w w' := by
  have HT := Lib.hid htab
  have KG := Lib.hid (Below.refl w.heap.size w)
  have HR1 := Lib.hid hr1
  have HR2 := Lib.hid hr2
  have Bx1 := Lib.hid b1
  have HOK := Lib.hid hk
  have N1 := Lib.hid (BF.raw hr1 l1 hr2 l2 hk)
  have LQ0 := Lib.hid (show LQ (0 : Rat) 101 from (LQ.int (n := 0) (by decide) (by decide)).up (by decide))
  obtain ⟨vd, hvd⟩ : ∃ b, b = decide (((0 : Rat).den : Int) = 1) := ⟨_, rfl⟩
  have HVD := Lib.hid hvd.symm
  obtain ⟨TA, hTA⟩ : ∃ t : ByteArray, t = ⟨(textQ (0 : Rat)).toArray⟩ := ⟨_, rfl⟩
  have HTA := Lib.hid hTA.symm
  clear hvd hTA
  have HS := Lib.hid hs
  clear hs
  clear htab hr1 hr2 l1 l2 b1 hk
  go_enter Tryz.func3, Tryz.ntmps3
  go_upto_region 1 with (fail)
  obtain ⟨v2, hV⟩ : ∃ V, V = w.alloc (.cells #[.bool x1.t.s, .slice x1.t.a x1.t.n x1.t.c, .bool x1.l.s, .slice x1.l.a x1.l.n x1.l.c] 26) := ⟨_, rfl⟩
  have hbV : Below w.heap.size w v2 := by rw [hV]; exact ((Below.refl _ _).alloc (Nat.le_refl _) _)
  have BX1 := Lib.hid (show Bxs v2 (w.heap.size) 26 [.bool x1.t.s, .slice x1.t.a x1.t.n x1.t.c, .bool x1.l.s, .slice x1.l.a x1.l.n x1.l.c] by have h := Bxs.new (w) 26 [.bool x1.t.s, .slice x1.t.a x1.t.n x1.t.c, .bool x1.l.s, .slice x1.l.a x1.l.n x1.l.c]; rw [hV]; exact h)
  rw [show w.alloc (.cells #[.bool x1.t.s, .slice x1.t.a x1.t.n x1.t.c, .bool x1.l.s, .slice x1.l.a x1.l.n x1.l.c] 26) = v2 from hV.symm]
  have KG := Lib.hid (KG.out.trans (hbV.mono KG.out.size))
  clear hV hbV
  have gs : ((s.size : Int) > 2000) := by have := HS.out; omega
  have cBX10 := BX1.out.cell (i := 0) rfl
  have cBX11 := BX1.out.cell (i := 1) rfl
  have cBX12 := BX1.out.cell (i := 2) rfl
  have cBX13 := BX1.out.cell (i := 3) rfl
  have cBX1f := BX1.out.fz
  have cBX1l := BX1.out.lt
  go_wp2_with fail
  clear cBX10 cBX11 cBX12 cBX13 cBX1f cBX1l
  obtain ⟨v4, hV⟩ : ∃ V, V = v2.alloc (.cells #[.bool x1.t.s, .slice x1.t.a x1.t.n x1.t.c, .bool x1.l.s, .slice x1.l.a x1.l.n x1.l.c] 26) := ⟨_, rfl⟩
  have hbV : Below v2.heap.size v2 v4 := by rw [hV]; exact ((Below.refl _ _).alloc (Nat.le_refl _) _)
  have BX3 := Lib.hid (show Bxs v4 (v2.heap.size) 26 [.bool x1.t.s, .slice x1.t.a x1.t.n x1.t.c, .bool x1.l.s, .slice x1.l.a x1.l.n x1.l.c] by have h := Bxs.new (v2) 26 [.bool x1.t.s, .slice x1.t.a x1.t.n x1.t.c, .bool x1.l.s, .slice x1.l.a x1.l.n x1.l.c]; rw [hV]; exact h)
  rw [show v2.alloc (.cells #[.bool x1.t.s, .slice x1.t.a x1.t.n x1.t.c, .bool x1.l.s, .slice x1.l.a x1.l.n x1.l.c] 26) = v4 from hV.symm]
  have BX1 := Lib.hid (BX1.out.below hbV BX1.out.lt)
  have KG := Lib.hid (KG.out.trans (hbV.mono KG.out.size))
  clear hV hbV
  have cBX10 := BX1.out.cell (i := 0) rfl
  have cBX11 := BX1.out.cell (i := 1) rfl
  have cBX12 := BX1.out.cell (i := 2) rfl
  have cBX13 := BX1.out.cell (i := 3) rfl
  have cBX1f := BX1.out.fz
  have cBX1l := BX1.out.lt
  have CT := Lib.hid (qgreat1 (M := 25) BX3.out)
  rw [show ((25 : Nat) : Int) = 25 from rfl, show decide ((25 < x1.t.n ∨ 25 < x1.l.n)) = false from decide_eq_false (by have g0 := Bx1.out; omega)] at CT
  with_reducible refine CT.out.mono ?_
  rintro e w5 ⟨rfl, hb⟩
  clear CT
  clear cBX10 cBX11 cBX12 cBX13 cBX1f cBX1l
  clear BX1
  clear BX3
  have KG := Lib.hid (KG.out.trans (hb.mono KG.out.size))
  clear hb
  go_wp2_with fail
  go_ret
  exact ⟨rfl, KG.out⟩
set_option maxRecDepth 100000 in
set_option maxHeartbeats 8000000 in
theorem texts_bad_0 (x1 : FV) (o1 o2 : Nat → Int) (s : ByteArray) (w : World) (htab : Tab w) (hr1 : Rd w x1.t.a x1.t.n o1) (l1 : x1.t.n ≤ x1.t.c) (hr2 : Rd w x1.l.a x1.l.n o2) (l2 : x1.l.n ≤ x1.l.c) (b1 : LF x1 25) (hk : ¬ okF x1.t.s x1.t.n o1 x1.l.s x1.l.n o2) (hs : s.size ≤ 2000) (hc : codeF s.data.toList = 0) : Calls Tryz.prog 3 #[x1.v, .string s] w fun e w' => e = .returned (.bool true) ∧ Below w.heap.size w w' := by
  have HT := Lib.hid htab
  have KG := Lib.hid (Below.refl w.heap.size w)
  have HR1 := Lib.hid hr1
  have HR2 := Lib.hid hr2
  have Bx1 := Lib.hid b1
  have HOK := Lib.hid hk
  have N1 := Lib.hid (BF.raw hr1 l1 hr2 l2 hk)
  have LQ0 := Lib.hid (show LQ (0 : Rat) 101 from (LQ.int (n := 0) (by decide) (by decide)).up (by decide))
  obtain ⟨vd, hvd⟩ : ∃ b, b = decide (((0 : Rat).den : Int) = 1) := ⟨_, rfl⟩
  have HVD := Lib.hid hvd.symm
  obtain ⟨TA, hTA⟩ : ∃ t : ByteArray, t = ⟨(textQ (0 : Rat)).toArray⟩ := ⟨_, rfl⟩
  have HTA := Lib.hid hTA.symm
  clear hvd hTA
  have HS := Lib.hid hs
  have HSM := Lib.hid (show s.size ≤ 9223372036854775807 by omega)
  have HSM6 := Lib.hid (show s.size ≤ 9223372036854775806 by omega)
  have HC := Lib.hid hc
  obtain ⟨qs, hqs⟩ : ∃ q, q = ratF s.data.toList := ⟨_, rfl⟩
  have LQqs := Lib.hid (show LQ qs 23 by rw [hqs]; exact ratF_len hc)
  have HQS := Lib.hid hqs
  clear hqs
  clear hs hc
  clear htab hr1 hr2 l1 l2 b1 hk
  go_enter Tryz.func3, Tryz.ntmps3
  go_upto_region 1 with (fail)
  obtain ⟨v2, hV⟩ : ∃ V, V = w.alloc (.cells #[.bool x1.t.s, .slice x1.t.a x1.t.n x1.t.c, .bool x1.l.s, .slice x1.l.a x1.l.n x1.l.c] 26) := ⟨_, rfl⟩
  have hbV : Below w.heap.size w v2 := by rw [hV]; exact ((Below.refl _ _).alloc (Nat.le_refl _) _)
  have BX1 := Lib.hid (show Bxs v2 (w.heap.size) 26 [.bool x1.t.s, .slice x1.t.a x1.t.n x1.t.c, .bool x1.l.s, .slice x1.l.a x1.l.n x1.l.c] by have h := Bxs.new (w) 26 [.bool x1.t.s, .slice x1.t.a x1.t.n x1.t.c, .bool x1.l.s, .slice x1.l.a x1.l.n x1.l.c]; rw [hV]; exact h)
  rw [show w.alloc (.cells #[.bool x1.t.s, .slice x1.t.a x1.t.n x1.t.c, .bool x1.l.s, .slice x1.l.a x1.l.n x1.l.c] 26) = v2 from hV.symm]
  have KG := Lib.hid (KG.out.trans (hbV.mono KG.out.size))
  clear hV hbV
  have gs : ¬ ((s.size : Int) > 2000) := by have := HS.out; omega
  have cBX10 := BX1.out.cell (i := 0) rfl
  have cBX11 := BX1.out.cell (i := 1) rfl
  have cBX12 := BX1.out.cell (i := 2) rfl
  have cBX13 := BX1.out.cell (i := 3) rfl
  have cBX1f := BX1.out.fz
  have cBX1l := BX1.out.lt
  go_wp2_with fail
  clear cBX10 cBX11 cBX12 cBX13 cBX1f cBX1l
  obtain ⟨v4, hV⟩ : ∃ V, V = v2.alloc (.cells #[.bool x1.t.s, .slice x1.t.a x1.t.n x1.t.c, .bool x1.l.s, .slice x1.l.a x1.l.n x1.l.c] 26) := ⟨_, rfl⟩
  have hbV : Below v2.heap.size v2 v4 := by rw [hV]; exact ((Below.refl _ _).alloc (Nat.le_refl _) _)
  have BX3 := Lib.hid (show Bxs v4 (v2.heap.size) 26 [.bool x1.t.s, .slice x1.t.a x1.t.n x1.t.c, .bool x1.l.s, .slice x1.l.a x1.l.n x1.l.c] by have h := Bxs.new (v2) 26 [.bool x1.t.s, .slice x1.t.a x1.t.n x1.t.c, .bool x1.l.s, .slice x1.l.a x1.l.n x1.l.c]; rw [hV]; exact h)
  rw [show v2.alloc (.cells #[.bool x1.t.s, .slice x1.t.a x1.t.n x1.t.c, .bool x1.l.s, .slice x1.l.a x1.l.n x1.l.c] 26) = v4 from hV.symm]
  have BX1 := Lib.hid (BX1.out.below hbV BX1.out.lt)
  have KG := Lib.hid (KG.out.trans (hbV.mono KG.out.size))
  clear hV hbV
  have cBX10 := BX1.out.cell (i := 0) rfl
  have cBX11 := BX1.out.cell (i := 1) rfl
  have cBX12 := BX1.out.cell (i := 2) rfl
  have cBX13 := BX1.out.cell (i := 3) rfl
  have cBX1f := BX1.out.fz
  have cBX1l := BX1.out.lt
  have CT := Lib.hid (qgreat1 (M := 25) BX3.out)
  rw [show ((25 : Nat) : Int) = 25 from rfl, show decide ((25 < x1.t.n ∨ 25 < x1.l.n)) = false from decide_eq_false (by have g0 := Bx1.out; omega)] at CT
  with_reducible refine CT.out.mono ?_
  rintro e w5 ⟨rfl, hb⟩
  clear CT
  clear cBX10 cBX11 cBX12 cBX13 cBX1f cBX1l
  have BX1 := Lib.hid (BX1.out.below hb BX1.out.lt)
  clear BX3
  have KG := Lib.hid (KG.out.trans (hb.mono KG.out.size))
  clear hb
  have cBX10 := BX1.out.cell (i := 0) rfl
  have cBX11 := BX1.out.cell (i := 1) rfl
  have cBX12 := BX1.out.cell (i := 2) rfl
  have cBX13 := BX1.out.cell (i := 3) rfl
  have cBX1f := BX1.out.fz
  have cBX1l := BX1.out.lt
  go_wp2_with fail
  have HA := Lib.hid (OwnAll.nil w5.heap.size w5)
  have HLS := Lib.hid (Nat.le_refl w5.heap.size)
  have HLO := Lib.hid (show w.heap.size ≤ w5.heap.size from KG.out.size)
  with_reducible refine (twinFrac_any x1.t.s x1.t.a x1.t.n x1.t.c o1 x1.l.s x1.l.a x1.l.n x1.l.c o2 w5 (HR1.out.below KG.out) (by have := Bx1.out.1; omega) (HR2.out.below KG.out) (by have := Bx1.out.2; omega)).mono ?_
  rintro e w6 ⟨g1, g2, rfl, hO1, hO2, hne, hb⟩
  have ho1 : Own 80 w6 w5.heap.size (some ⟨g1, 0, none⟩) x1.t.n (x1.t.n + 1) o1 := (hO1.less (by omega)).congr fun i hi => (if_pos hi)
  have ho2 : Own 80 w6 w5.heap.size (some ⟨g2, 0, none⟩) x1.l.n (x1.l.n + 1) o2 := (hO2.less (by omega)).congr fun i hi => (if_pos hi)
  have hap : Apart2 (some ⟨g1, 0, none⟩) (some ⟨g2, 0, none⟩) := fun p q hp hq e => by cases hp; cases hq; exact hne e
  have HT1 := Lib.hid hO1
  have HT2 := Lib.hid hO2
  have NX := Lib.hid (BF.raw (s1 := x1.t.s) (s2 := x1.l.s) ho1.rd ho1.le ho2.rd ho2.le HOK.out)
  clear cBX10 cBX11 cBX12 cBX13 cBX1f cBX1l
  have hA1 := HA.out.more2 HLS.out hb (x := ⟨0, x1.t.s, some ⟨g1, 0, none⟩, x1.t.n, x1.t.n + 1, o1⟩) (y := ⟨0, x1.l.s, some ⟨g2, 0, none⟩, x1.l.n, x1.l.n + 1, o2⟩) ho1 ho2 hap
  have HA := Lib.hid hA1
  clear hA1
  simp only [List.nil_append, List.cons_append] at HA
  have HLS := Lib.hid (Nat.le_trans HLS.out hb.size)
  have BX1 := Lib.hid (BX1.out.below hb BX1.out.lt)
  have KG := Lib.hid (KG.out.trans (hb.mono KG.out.size))
  clear hb ho1 ho2 hap hne hO1 hO2
  go_upto_region 4 with (fail)
  obtain ⟨v8, hV⟩ : ∃ V, V = w6.alloc (.cells #[.bool x1.t.s, .slice (some ⟨g1, 0, none⟩) x1.t.n (x1.t.n + 1), .bool x1.l.s, .slice (some ⟨g2, 0, none⟩) x1.l.n (x1.l.n + 1)] 26) := ⟨_, rfl⟩
  have hbV : Below w6.heap.size w6 v8 := by rw [hV]; exact ((Below.refl _ _).alloc (Nat.le_refl _) _)
  have BX7 := Lib.hid (show Bxs v8 (w6.heap.size) 26 [.bool x1.t.s, .slice (some ⟨g1, 0, none⟩) x1.t.n (x1.t.n + 1), .bool x1.l.s, .slice (some ⟨g2, 0, none⟩) x1.l.n (x1.l.n + 1)] by have h := Bxs.new (w6) 26 [.bool x1.t.s, .slice (some ⟨g1, 0, none⟩) x1.t.n (x1.t.n + 1), .bool x1.l.s, .slice (some ⟨g2, 0, none⟩) x1.l.n (x1.l.n + 1)]; rw [hV]; exact h)
  rw [show w6.alloc (.cells #[.bool x1.t.s, .slice (some ⟨g1, 0, none⟩) x1.t.n (x1.t.n + 1), .bool x1.l.s, .slice (some ⟨g2, 0, none⟩) x1.l.n (x1.l.n + 1)] 26) = v8 from hV.symm]
  have HA := Lib.hid (HA.out.below hbV)
  have HLS := Lib.hid (Nat.le_trans HLS.out hbV.size)
  have HT1 := Lib.hid (HT1.out.below hbV)
  have HT2 := Lib.hid (HT2.out.below hbV)
  have NX := Lib.hid (NX.out.below hbV)
  have BX1 := Lib.hid (BX1.out.below hbV BX1.out.lt)
  have KG := Lib.hid (KG.out.trans (hbV.mono KG.out.size))
  clear hV hbV
  go_wp2_with fail
  have CT := Lib.hid (qparse_z v8 HSM.out HC.out HQS.out.symm)
  rw [show qs = qs from by skip; grind] at CT
  with_reducible refine CT.out.mono ?_
  rintro e w9 ⟨x10, rfl, hN11, hb⟩
  have N11 := Lib.hid hN11
  clear hN11
  clear CT
  have hA1 := HA.out.more2 HLS.out hb (x := ⟨0, x10.t.s, x10.t.a, x10.t.n, x10.t.c, dgi qs.num.natAbs⟩) (y := ⟨0, x10.l.s, x10.l.a, x10.l.n, x10.l.c, dgi (qs.den : Int).natAbs⟩) (by have h := N11.out.t.own; exact h) (by have h := N11.out.l.own; exact h) N11.out.ap
  have HA := Lib.hid hA1
  clear hA1
  simp only [List.nil_append, List.cons_append] at HA
  have HLS := Lib.hid (Nat.le_trans HLS.out hb.size)
  have HT1 := Lib.hid (HT1.out.below hb)
  have HT2 := Lib.hid (HT2.out.below hb)
  have NX := Lib.hid (NX.out.below hb)
  have BX1 := Lib.hid (BX1.out.below hb BX1.out.lt)
  have BX7 := Lib.hid (BX7.out.below hb BX7.out.lt)
  have KG := Lib.hid (KG.out.trans (hb.mono KG.out.size))
  clear hb
  go_upto_region 5 with (fail)
  obtain ⟨v13, hV⟩ : ∃ V, V = w9.alloc (.cells #[.bool x10.t.s, .slice x10.t.a x10.t.n x10.t.c, .bool x10.l.s, .slice x10.l.a x10.l.n x10.l.c] 26) := ⟨_, rfl⟩
  have hbV : Below w9.heap.size w9 v13 := by rw [hV]; exact ((Below.refl _ _).alloc (Nat.le_refl _) _)
  have BX12 := Lib.hid (show Bxs v13 (w9.heap.size) 26 [.bool x10.t.s, .slice x10.t.a x10.t.n x10.t.c, .bool x10.l.s, .slice x10.l.a x10.l.n x10.l.c] by have h := Bxs.new (w9) 26 [.bool x10.t.s, .slice x10.t.a x10.t.n x10.t.c, .bool x10.l.s, .slice x10.l.a x10.l.n x10.l.c]; rw [hV]; exact h)
  rw [show w9.alloc (.cells #[.bool x10.t.s, .slice x10.t.a x10.t.n x10.t.c, .bool x10.l.s, .slice x10.l.a x10.l.n x10.l.c] 26) = v13 from hV.symm]
  have HA := Lib.hid (HA.out.below hbV)
  have HLS := Lib.hid (Nat.le_trans HLS.out hbV.size)
  have HT1 := Lib.hid (HT1.out.below hbV)
  have HT2 := Lib.hid (HT2.out.below hbV)
  have NX := Lib.hid (NX.out.below hbV)
  have N11 := Lib.hid (N11.out.below hbV)
  have BX1 := Lib.hid (BX1.out.below hbV BX1.out.lt)
  have BX7 := Lib.hid (BX7.out.below hbV BX7.out.lt)
  have KG := Lib.hid (KG.out.trans (hbV.mono KG.out.size))
  clear hV hbV
  go_wp2_with fail
  have CT := Lib.hid (rq_z v13 HSM6.out HC.out HQS.out.symm)
  with_reducible refine CT.out.mono ?_
  rintro e w14 ⟨x15, rfl, hN16, hb⟩
  have N16 := Lib.hid hN16
  clear hN16
  clear CT
  have HA := Lib.hid (HA.out.below hb)
  have HLS := Lib.hid (Nat.le_trans HLS.out hb.size)
  have HT1 := Lib.hid (HT1.out.below hb)
  have HT2 := Lib.hid (HT2.out.below hb)
  have NX := Lib.hid (NX.out.below hb)
  have N11 := Lib.hid (N11.out.below hb)
  have BX1 := Lib.hid (BX1.out.below hb BX1.out.lt)
  have BX7 := Lib.hid (BX7.out.below hb BX7.out.lt)
  have BX12 := Lib.hid (BX12.out.below hb BX12.out.lt)
  have KG := Lib.hid (KG.out.trans (hb.mono KG.out.size))
  clear hb
  go_upto_region 6 with (fail)
  obtain ⟨v18, hV⟩ : ∃ V, V = w14.alloc (.cells #[.bool x15.t.s, .slice x15.t.a x15.t.n x15.t.c, .bool x15.l.s, .slice x15.l.a x15.l.n x15.l.c] 26) := ⟨_, rfl⟩
  have hbV : Below w14.heap.size w14 v18 := by rw [hV]; exact ((Below.refl _ _).alloc (Nat.le_refl _) _)
  have BX17 := Lib.hid (show Bxs v18 (w14.heap.size) 26 [.bool x15.t.s, .slice x15.t.a x15.t.n x15.t.c, .bool x15.l.s, .slice x15.l.a x15.l.n x15.l.c] by have h := Bxs.new (w14) 26 [.bool x15.t.s, .slice x15.t.a x15.t.n x15.t.c, .bool x15.l.s, .slice x15.l.a x15.l.n x15.l.c]; rw [hV]; exact h)
  rw [show w14.alloc (.cells #[.bool x15.t.s, .slice x15.t.a x15.t.n x15.t.c, .bool x15.l.s, .slice x15.l.a x15.l.n x15.l.c] 26) = v18 from hV.symm]
  have HA := Lib.hid (HA.out.below hbV)
  have HLS := Lib.hid (Nat.le_trans HLS.out hbV.size)
  have HT1 := Lib.hid (HT1.out.below hbV)
  have HT2 := Lib.hid (HT2.out.below hbV)
  have NX := Lib.hid (NX.out.below hbV)
  have N11 := Lib.hid (N11.out.below hbV)
  have N16 := Lib.hid (N16.out.below hbV)
  have BX1 := Lib.hid (BX1.out.below hbV BX1.out.lt)
  have BX7 := Lib.hid (BX7.out.below hbV BX7.out.lt)
  have BX12 := Lib.hid (BX12.out.below hbV BX12.out.lt)
  have KG := Lib.hid (KG.out.trans (hbV.mono KG.out.size))
  clear hV hbV
  go_upto_region 6 with (fail)
  refine Go.FreshS.wp_region_fresh 35 [] (Go.FreshS.spOf [(1, Go.FreshS.Sp.know (.bool false)), (3, Go.FreshS.Sp.know (.bool false)), (7, Go.FreshS.Sp.know (.bool vd)), (9, Go.FreshS.Sp.know (.bool vd)), (14, Go.FreshS.Sp.know (.string TA)), (16, Go.FreshS.Sp.know (.string TA)), (22, Go.FreshS.Sp.know (.bool true)), (33, Go.FreshS.Sp.know (.bool true))])
    (fun w' => Below v18.heap.size v18 w') (by kernel_rfl) (by kernel_rfl) (by kernel_rfl)
    (Go.FreshS.spOf_cons (Go.FreshS.Sp.know_keeps _ _) (Go.FreshS.spOf_cons (Go.FreshS.Sp.know_keeps _ _) (Go.FreshS.spOf_cons (Go.FreshS.Sp.know_keeps _ _) (Go.FreshS.spOf_cons (Go.FreshS.Sp.know_keeps _ _) (Go.FreshS.spOf_cons (Go.FreshS.Sp.know_keeps _ _) (Go.FreshS.spOf_cons (Go.FreshS.Sp.know_keeps _ _) (Go.FreshS.spOf_cons (Go.FreshS.Sp.know_keeps _ _) (Go.FreshS.spOf_cons (Go.FreshS.Sp.know_keeps _ _) (Go.FreshS.spOf_nil))))))))) (fun _ _ h hb => h.trans (hb.mono h.size)) ((Below.refl _ _).drew) ?_
  simp only [List.append_eq, List.cons_append, List.nil_append, List.take_succ_cons, List.take_zero, List.drop_succ_cons, List.drop_zero]
  refine Go.FreshS.wpF_reads rfl rfl rfl ?_ (fun w' hw' => ?_) ?_
  rotate_left
  · have hb' := hw'.world
    have hs0 := (BX7.out.below hb' BX7.out.lt).cell (i := 0) rfl
    have hs1 := (BX7.out.below hb' BX7.out.lt).cell (i := 1) rfl
    have hs2 := (BX7.out.below hb' BX7.out.lt).cell (i := 2) rfl
    have hs3 := (BX7.out.below hb' BX7.out.lt).cell (i := 3) rfl
    have hsf := (BX7.out.below hb' BX7.out.lt).fz
    have hsl := (BX7.out.below hb' BX7.out.lt).lt
    clear hw'
    go_simp
    try rfl
  conv => arg 10; simp only [Act.put, List.setIfInBounds_toArray, List.set_cons_succ, List.set_cons_zero]
  refine Go.FreshS.wpF_spec rfl rfl rfl (fun w' hw' => ?_) ?_
  · have hb' := hw'.world
    refine Go.FreshS.gives_of (Go.FreshS.PK (.bool false)) ?_ (fun _ _ h => h.post)
    go_simp
    have CT := qcheckB (NX.out.below hb') (LF.up Bx1.out (by decide : _ ≤ 900000))
    refine CT.mono ?_
    rintro e w'' ⟨rfl, hb⟩
    exact ⟨_, rfl, rfl, hb⟩
  rintro _ rfl
  conv => arg 10; simp only [Act.put, List.setIfInBounds_toArray, List.set_cons_succ, List.set_cons_zero]
  refine Go.FreshS.wpF_reads rfl rfl rfl ?_ (fun w' hw' => ?_) ?_
  rotate_left
  · have hb' := hw'.world
    have hs0 := (BX1.out.below hb' BX1.out.lt).cell (i := 0) rfl
    have hs1 := (BX1.out.below hb' BX1.out.lt).cell (i := 1) rfl
    have hs2 := (BX1.out.below hb' BX1.out.lt).cell (i := 2) rfl
    have hs3 := (BX1.out.below hb' BX1.out.lt).cell (i := 3) rfl
    have hsf := (BX1.out.below hb' BX1.out.lt).fz
    have hsl := (BX1.out.below hb' BX1.out.lt).lt
    clear hw'
    go_simp
    try rfl
  conv => arg 10; simp only [Act.put, List.setIfInBounds_toArray, List.set_cons_succ, List.set_cons_zero]
  refine Go.FreshS.wpF_spec rfl rfl rfl (fun w' hw' => ?_) ?_
  · have hb' := hw'.world
    refine Go.FreshS.gives_of (Go.FreshS.PK (.bool false)) ?_ (fun _ _ h => h.post)
    go_simp
    have CT := rcheckB (N1.out.below (KG.out.trans (hb'.mono KG.out.size))) (LF.up Bx1.out (by decide : _ ≤ 900000))
    refine CT.mono ?_
    rintro e w'' ⟨rfl, hb⟩
    exact ⟨_, rfl, rfl, hb⟩
  rintro _ rfl
  conv => arg 10; simp only [Act.put, List.setIfInBounds_toArray, List.set_cons_succ, List.set_cons_zero]
  refine Go.FreshS.wpF_reads rfl rfl rfl ?_ (fun w' hw' => ?_) ?_
  rotate_left
  · have hb' := hw'.world
    skip
    clear hw'
    go_simp
    try rfl
  conv => arg 10; simp only [Act.put, List.setIfInBounds_toArray, List.set_cons_succ, List.set_cons_zero]
  refine Go.FreshS.wpF_reads rfl rfl rfl ?_ (fun w' hw' => ?_) ?_
  rotate_left
  · have hb' := hw'.world
    skip
    clear hw'
    go_simp
    try rfl
  conv => arg 10; simp only [Act.put, List.setIfInBounds_toArray, List.set_cons_succ, List.set_cons_zero]
  refine Go.FreshS.wpF_readsG (by rfl) rfl rfl ?_ (fun w' hw' => ?_) ?_
  rotate_left
  · have hb' := hw'.world
    have hs0 := (BX7.out.below hb' BX7.out.lt).cell (i := 0) rfl
    have hs1 := (BX7.out.below hb' BX7.out.lt).cell (i := 1) rfl
    have hs2 := (BX7.out.below hb' BX7.out.lt).cell (i := 2) rfl
    have hs3 := (BX7.out.below hb' BX7.out.lt).cell (i := 3) rfl
    have hsf := (BX7.out.below hb' BX7.out.lt).fz
    have hsl := (BX7.out.below hb' BX7.out.lt).lt
    clear hw'
    go_simp
    try rfl
  conv => arg 10; simp only [Act.put, List.setIfInBounds_toArray, List.set_cons_succ, List.set_cons_zero]
  refine Go.FreshS.wpF_gspec (by rfl) rfl rfl (fun w' hw' => ?_) ?_
  · have hb' := hw'.world
    refine Go.FreshS.gives_of (Go.FreshS.PK (.bool vd)) ?_ (fun _ _ h => h.post)
    go_simp
    have CT := qwhole (⟨⟨x1.t.s, some ⟨g1, 0, none⟩, x1.t.n, x1.t.n + 1⟩, ⟨x1.l.s, some ⟨g2, 0, none⟩, x1.l.n, x1.l.n + 1⟩⟩ : FV) (0 : Rat) w' ((NX.out.below hb')).any (LF.up Bx1.out (by decide : _ ≤ 100)) LQ0.out
    rw [show decide (((0 : Rat).den : Int) = 1) = vd from HVD.out] at CT
    refine CT.mono ?_
    rintro e w'' ⟨rfl, hb⟩
    exact ⟨_, rfl, rfl, hb⟩
  rintro _ rfl
  conv => arg 10; simp only [Act.put, List.setIfInBounds_toArray, List.set_cons_succ, List.set_cons_zero]
  refine Go.FreshS.wpF_readsG (by rfl) rfl rfl ?_ (fun w' hw' => ?_) ?_
  rotate_left
  · have hb' := hw'.world
    have hs0 := (BX1.out.below hb' BX1.out.lt).cell (i := 0) rfl
    have hs1 := (BX1.out.below hb' BX1.out.lt).cell (i := 1) rfl
    have hs2 := (BX1.out.below hb' BX1.out.lt).cell (i := 2) rfl
    have hs3 := (BX1.out.below hb' BX1.out.lt).cell (i := 3) rfl
    have hsf := (BX1.out.below hb' BX1.out.lt).fz
    have hsl := (BX1.out.below hb' BX1.out.lt).lt
    clear hw'
    go_simp
    try rfl
  conv => arg 10; simp only [Act.put, List.setIfInBounds_toArray, List.set_cons_succ, List.set_cons_zero]
  refine Go.FreshS.wpF_gspec (by rfl) rfl rfl (fun w' hw' => ?_) ?_
  · have hb' := hw'.world
    refine Go.FreshS.gives_of (Go.FreshS.PK (.bool vd)) ?_ (fun _ _ h => h.post)
    go_simp
    have CT := rwholeQ x1 (0 : Rat) w' ((N1.out.below (KG.out.trans (hb'.mono KG.out.size)))).any (LF.up Bx1.out (by decide : _ ≤ 100)) LQ0.out
    rw [show decide (((0 : Rat).den : Int) = 1) = vd from HVD.out] at CT
    refine CT.mono ?_
    rintro e w'' ⟨rfl, hb⟩
    exact ⟨_, rfl, rfl, hb⟩
  rintro _ rfl
  conv => arg 10; simp only [Act.put, List.setIfInBounds_toArray, List.set_cons_succ, List.set_cons_zero]
  refine Go.FreshS.wpF_readsG (by rfl) rfl rfl ?_ (fun w' hw' => ?_) ?_
  rotate_left
  · have hb' := hw'.world
    skip
    clear hw'
    go_simp
    try rfl
  conv => arg 10; simp only [Act.put, List.setIfInBounds_toArray, List.set_cons_succ, List.set_cons_zero]
  refine Go.FreshS.wpF_reads rfl rfl rfl ?_ (fun w' hw' => ?_) ?_
  rotate_left
  · have hb' := hw'.world
    skip
    clear hw'
    go_simp
    try rfl
  conv => arg 10; simp only [Act.put, List.setIfInBounds_toArray, List.set_cons_succ, List.set_cons_zero]
  refine Go.FreshS.wpF_reads rfl rfl rfl ?_ (fun w' hw' => ?_) ?_
  rotate_left
  · have hb' := hw'.world
    skip
    clear hw'
    go_simp
    try rfl
  conv => arg 10; simp only [Act.put, List.setIfInBounds_toArray, List.set_cons_succ, List.set_cons_zero]
  refine Go.FreshS.wpF_readsG (by rfl) rfl rfl ?_ (fun w' hw' => ?_) ?_
  rotate_left
  · have hb' := hw'.world
    have hs0 := (BX7.out.below hb' BX7.out.lt).cell (i := 0) rfl
    have hs1 := (BX7.out.below hb' BX7.out.lt).cell (i := 1) rfl
    have hs2 := (BX7.out.below hb' BX7.out.lt).cell (i := 2) rfl
    have hs3 := (BX7.out.below hb' BX7.out.lt).cell (i := 3) rfl
    have hsf := (BX7.out.below hb' BX7.out.lt).fz
    have hsl := (BX7.out.below hb' BX7.out.lt).lt
    clear hw'
    go_simp
    try rfl
  conv => arg 10; simp only [Act.put, List.setIfInBounds_toArray, List.set_cons_succ, List.set_cons_zero]
  refine Go.FreshS.wpF_gspec (by rfl) rfl rfl (fun w' hw' => ?_) ?_
  · have hb' := hw'.world
    refine Go.FreshS.gives_of (Go.FreshS.PK (.string TA)) ?_ (fun _ _ h => h.post)
    go_simp
    have CT := qtextA' (⟨⟨x1.t.s, some ⟨g1, 0, none⟩, x1.t.n, x1.t.n + 1⟩, ⟨x1.l.s, some ⟨g2, 0, none⟩, x1.l.n, x1.l.n + 1⟩⟩ : FV) (0 : Rat) w' (HT.out.on (KG.out.trans (hb'.mono KG.out.size))) ((NX.out.below hb')).any (LF.up Bx1.out (by decide : _ ≤ 100)) LQ0.out
    rw [show (⟨(textQ (0 : Rat)).toArray⟩ : ByteArray) = TA from HTA.out] at CT
    refine CT.mono ?_
    rintro e w'' ⟨rfl, hb⟩
    exact ⟨_, rfl, rfl, hb⟩
  rintro _ rfl
  conv => arg 10; simp only [Act.put, List.setIfInBounds_toArray, List.set_cons_succ, List.set_cons_zero]
  refine Go.FreshS.wpF_readsG (by rfl) rfl rfl ?_ (fun w' hw' => ?_) ?_
  rotate_left
  · have hb' := hw'.world
    have hs0 := (BX1.out.below hb' BX1.out.lt).cell (i := 0) rfl
    have hs1 := (BX1.out.below hb' BX1.out.lt).cell (i := 1) rfl
    have hs2 := (BX1.out.below hb' BX1.out.lt).cell (i := 2) rfl
    have hs3 := (BX1.out.below hb' BX1.out.lt).cell (i := 3) rfl
    have hsf := (BX1.out.below hb' BX1.out.lt).fz
    have hsl := (BX1.out.below hb' BX1.out.lt).lt
    clear hw'
    go_simp
    try rfl
  conv => arg 10; simp only [Act.put, List.setIfInBounds_toArray, List.set_cons_succ, List.set_cons_zero]
  refine Go.FreshS.wpF_gspec (by rfl) rfl rfl (fun w' hw' => ?_) ?_
  · have hb' := hw'.world
    refine Go.FreshS.gives_of (Go.FreshS.PK (.string TA)) ?_ (fun _ _ h => h.post)
    go_simp
    have CT := rtextQ x1 (0 : Rat) w' ((N1.out.below (KG.out.trans (hb'.mono KG.out.size)))).any (LF.up Bx1.out (by decide : _ ≤ 100)) LQ0.out
    rw [show (⟨(textQ (0 : Rat)).toArray⟩ : ByteArray) = TA from HTA.out] at CT
    refine CT.mono ?_
    rintro e w'' ⟨rfl, hb⟩
    exact ⟨_, rfl, rfl, hb⟩
  rintro _ rfl
  conv => arg 10; simp only [Act.put, List.setIfInBounds_toArray, List.set_cons_succ, List.set_cons_zero]
  refine Go.FreshS.wpF_readsG (by rfl) rfl rfl ?_ (fun w' hw' => ?_) ?_
  rotate_left
  · have hb' := hw'.world
    skip
    clear hw'
    go_simp
    try rfl
  conv => arg 10; simp only [Act.put, List.setIfInBounds_toArray, List.set_cons_succ, List.set_cons_zero]
  refine Go.FreshS.wpF_reads rfl rfl rfl ?_ (fun w' hw' => ?_) ?_
  rotate_left
  · have hb' := hw'.world
    skip
    clear hw'
    go_simp
    try rfl
  conv => arg 10; simp only [Act.put, List.setIfInBounds_toArray, List.set_cons_succ, List.set_cons_zero]
  refine Go.FreshS.wpF_reads rfl rfl rfl ?_ (fun w' hw' => ?_) ?_
  rotate_left
  · have hb' := hw'.world
    skip
    clear hw'
    go_simp
    try rfl
  conv => arg 10; simp only [Act.put, List.setIfInBounds_toArray, List.set_cons_succ, List.set_cons_zero]
  refine Go.FreshS.wpF_readsG (by rfl) rfl rfl ?_ (fun w' hw' => ?_) ?_
  rotate_left
  · have hb' := hw'.world
    have hs0 := (BX12.out.below hb' BX12.out.lt).cell (i := 0) rfl
    have hs1 := (BX12.out.below hb' BX12.out.lt).cell (i := 1) rfl
    have hs2 := (BX12.out.below hb' BX12.out.lt).cell (i := 2) rfl
    have hs3 := (BX12.out.below hb' BX12.out.lt).cell (i := 3) rfl
    have hsf := (BX12.out.below hb' BX12.out.lt).fz
    have hsl := (BX12.out.below hb' BX12.out.lt).lt
    clear hw'
    go_simp
    try rfl
  conv => arg 10; simp only [Act.put, List.setIfInBounds_toArray, List.set_cons_succ, List.set_cons_zero]
  refine Go.FreshS.wpF_readsG (by rfl) rfl rfl ?_ (fun w' hw' => ?_) ?_
  rotate_left
  · have hb' := hw'.world
    have hs0 := (BX17.out.below hb' BX17.out.lt).cell (i := 0) rfl
    have hs1 := (BX17.out.below hb' BX17.out.lt).cell (i := 1) rfl
    have hs2 := (BX17.out.below hb' BX17.out.lt).cell (i := 2) rfl
    have hs3 := (BX17.out.below hb' BX17.out.lt).cell (i := 3) rfl
    have hsf := (BX17.out.below hb' BX17.out.lt).fz
    have hsl := (BX17.out.below hb' BX17.out.lt).lt
    clear hw'
    go_simp
    try rfl
  conv => arg 10; simp only [Act.put, List.setIfInBounds_toArray, List.set_cons_succ, List.set_cons_zero]
  refine Go.FreshS.wpF_gspec (by rfl) rfl rfl (fun w' hw' => ?_) ?_
  · have hb' := hw'.world
    refine Go.FreshS.gives_of (Go.FreshS.PK (.bool true)) ?_ (fun _ _ h => h.post)
    go_simp
    have CT := qsameFr ((N11.out.below hb')).k ((((N11.out.below hb')).k).len LQqs.out (by decide : _ ≤ 900000)) (N16.out.below hb') (((N16.out.below hb')).len LQqs.out (by decide : _ ≤ 900000)) (rfl)
    refine CT.mono ?_
    rintro e w'' ⟨rfl, hb⟩
    exact ⟨_, rfl, rfl, hb⟩
  rintro _ rfl
  conv => arg 10; simp only [Act.put, List.setIfInBounds_toArray, List.set_cons_succ, List.set_cons_zero]
  refine Go.FreshS.wpF_readsG (by rfl) rfl rfl ?_ (fun w' hw' => ?_) ?_
  rotate_left
  · have hb' := hw'.world
    skip
    clear hw'
    go_simp
    try rfl
  conv => arg 10; simp only [Act.put, List.setIfInBounds_toArray, List.set_cons_succ, List.set_cons_zero]
  refine Go.FreshS.wpF_reads rfl rfl rfl ?_ (fun w' hw' => ?_) ?_
  rotate_left
  · have hb' := hw'.world
    skip
    clear hw'
    go_simp
    try rfl
  conv => arg 10; simp only [Act.put, List.setIfInBounds_toArray, List.set_cons_succ, List.set_cons_zero]
  refine Go.FreshS.wpF_reads rfl rfl rfl ?_ (fun w' hw' => ?_) ?_
  rotate_left
  · have hb' := hw'.world
    skip
    clear hw'
    go_simp
    try rfl
  conv => arg 10; simp only [Act.put, List.setIfInBounds_toArray, List.set_cons_succ, List.set_cons_zero]
  refine Go.FreshS.wpF_readsG (by rfl) rfl rfl ?_ (fun w' hw' => ?_) ?_
  rotate_left
  · have hb' := hw'.world
    skip
    clear hw'
    go_simp
    try rfl
  conv => arg 10; simp only [Act.put, List.setIfInBounds_toArray, List.set_cons_succ, List.set_cons_zero]
  refine Go.FreshS.wpF_readsG (by rfl) rfl rfl ?_ (fun w' hw' => ?_) ?_
  rotate_left
  · have hb' := hw'.world
    skip
    clear hw'
    go_simp
    try rfl
  conv => arg 10; simp only [Act.put, List.setIfInBounds_toArray, List.set_cons_succ, List.set_cons_zero]
  refine Go.FreshS.wpF_readsG (by rfl) rfl rfl ?_ (fun w' hw' => ?_) ?_
  rotate_left
  · have hb' := hw'.world
    skip
    clear hw'
    go_simp
    try rfl
  conv => arg 10; simp only [Act.put, List.setIfInBounds_toArray, List.set_cons_succ, List.set_cons_zero]
  refine Go.FreshS.wpF_reads rfl rfl rfl ?_ (fun w' hw' => ?_) ?_
  rotate_left
  · have hb' := hw'.world
    skip
    clear hw'
    go_simp
    try rfl
  conv => arg 10; simp only [Act.put, List.setIfInBounds_toArray, List.set_cons_succ, List.set_cons_zero]
  refine Go.FreshS.wpF_reads rfl rfl rfl ?_ (fun w' hw' => ?_) ?_
  rotate_left
  · have hb' := hw'.world
    skip
    clear hw'
    go_simp
    try rfl
  conv => arg 10; simp only [Act.put, List.setIfInBounds_toArray, List.set_cons_succ, List.set_cons_zero]
  refine Go.FreshS.wpF_readsG (by rfl) rfl rfl ?_ (fun w' hw' => ?_) ?_
  rotate_left
  · have hb' := hw'.world
    have hs0 := (BX7.out.below hb' BX7.out.lt).cell (i := 0) rfl
    have hs1 := (BX7.out.below hb' BX7.out.lt).cell (i := 1) rfl
    have hs2 := (BX7.out.below hb' BX7.out.lt).cell (i := 2) rfl
    have hs3 := (BX7.out.below hb' BX7.out.lt).cell (i := 3) rfl
    have hsf := (BX7.out.below hb' BX7.out.lt).fz
    have hsl := (BX7.out.below hb' BX7.out.lt).lt
    clear hw'
    go_simp
    try rfl
  conv => arg 10; simp only [Act.put, List.setIfInBounds_toArray, List.set_cons_succ, List.set_cons_zero]
  refine Go.FreshS.wpF_readsG (by rfl) rfl rfl ?_ (fun w' hw' => ?_) ?_
  rotate_left
  · have hb' := hw'.world
    have hs0 := (BX1.out.below hb' BX1.out.lt).cell (i := 0) rfl
    have hs1 := (BX1.out.below hb' BX1.out.lt).cell (i := 1) rfl
    have hs2 := (BX1.out.below hb' BX1.out.lt).cell (i := 2) rfl
    have hs3 := (BX1.out.below hb' BX1.out.lt).cell (i := 3) rfl
    have hsf := (BX1.out.below hb' BX1.out.lt).fz
    have hsl := (BX1.out.below hb' BX1.out.lt).lt
    clear hw'
    go_simp
    try rfl
  conv => arg 10; simp only [Act.put, List.setIfInBounds_toArray, List.set_cons_succ, List.set_cons_zero]
  refine Go.FreshS.wpF_gspec (by rfl) rfl rfl (fun w' hw' => ?_) ?_
  · have hb' := hw'.world
    refine Go.FreshS.gives_of (Go.FreshS.PK (.bool true)) ?_ (fun _ _ h => h.post)
    go_simp
    have CT := leftFrac_any x1.t.s g1 x1.t.a x1.t.n x1.t.c o1 x1.l.s g2 x1.l.a x1.l.n x1.l.c o2 w' (HT1.out.below hb').rd (HR1.out.below (KG.out.trans (hb'.mono KG.out.size))) (by have := Bx1.out.1; omega) (HT2.out.below hb').rd (HR2.out.below (KG.out.trans (hb'.mono KG.out.size))) (by have := Bx1.out.2; omega)
    refine CT.mono ?_
    rintro e w'' ⟨rfl, hb⟩
    exact ⟨_, rfl, rfl, hb⟩
  rintro _ rfl
  conv => arg 10; simp only [Act.put, List.setIfInBounds_toArray, List.set_cons_succ, List.set_cons_zero]
  refine Go.FreshS.wpF_readsG (by rfl) rfl rfl ?_ (fun w' hw' => ?_) ?_
  rotate_left
  · have hb' := hw'.world
    skip
    clear hw'
    go_simp
    try rfl
  conv => arg 10; simp only [Act.put, List.setIfInBounds_toArray, List.set_cons_succ, List.set_cons_zero]
  refine Go.FreshS.wpF_nil (fun w19 hb hF => ?_)
  clear hF
  have HA := Lib.hid (HA.out.below hb)
  have HLS := Lib.hid (Nat.le_trans HLS.out hb.size)
  clear HT1
  clear HT2
  clear NX
  have N11 := Lib.hid (N11.out.below hb)
  clear N16
  clear BX1
  have BX7 := Lib.hid (BX7.out.below hb BX7.out.lt)
  have BX12 := Lib.hid (BX12.out.below hb BX12.out.lt)
  clear BX17
  have KG := Lib.hid (KG.out.trans (hb.mono KG.out.size))
  clear hb
  go_upto_region 8 with (fail)
  go_upto_region 9 with (fail)
  obtain ⟨W, hW⟩ : ∃ W, W = w19.alloc (.cells #[.int .i64 0, .slice none 0 0, .slice none 0 0, .slice none 0 0, .slice none 0 0, .slice none 0 0, .slice none 0 0, .slice none 0 0, .slice none 0 0, .slice none 0 0, .slice none 0 0, .slice none 0 0, .slice none 0 0] 48) := ⟨_, rfl⟩
  have HK := Lib.hid (book_nw w19)
  have HW := Lib.hid (show Below w19.heap.size w19 (w19.alloc (.cells #[.int .i64 0, .slice none 0 0, .slice none 0 0, .slice none 0 0, .slice none 0 0, .slice none 0 0, .slice none 0 0, .slice none 0 0, .slice none 0 0, .slice none 0 0, .slice none 0 0, .slice none 0 0, .slice none 0 0] 48)) from (Below.refl _ _).alloc (Nat.le_refl _) _)
  rw [← hW] at HK HW
  rw [show w19.alloc (.cells #[.int .i64 0, .slice none 0 0, .slice none 0 0, .slice none 0 0, .slice none 0 0, .slice none 0 0, .slice none 0 0, .slice none 0 0, .slice none 0 0, .slice none 0 0, .slice none 0 0, .slice none 0 0, .slice none 0 0] 48) = W from hW.symm]
  clear hW
  have HXN := Lib.hid (show LF x10 900000 from N11.out.k.len LQqs.out (by decide))
  obtain ⟨B, hB⟩ : ∃ B, B = w19.heap.size := ⟨_, rfl⟩
  rw [← hB] at HK HW
  rw [← hB]
  have HBe := Lib.hid hB
  clear hB
  have hbz : B ≤ W.heap.size := Nat.le_trans (by rw [HBe.out]; exact Nat.le_refl _) HW.out.size
  have hBX := BX7.out.below (by rw [← HBe.out]; exact HW.out) BX7.out.lt
  have y0 := hBX.cell (i := 0) rfl
  have y1 := hBX.cell (i := 1) rfl
  have y2 := hBX.cell (i := 2) rfl
  have y3 := hBX.cell (i := 3) rfl
  have x4 := hBX.fz
  have x5 := hBX.lt
  have NM := Lib.hid (bookFrac_any B 0 _ _ x1.t.s (some ⟨g1, 0, none⟩) x1.t.n (x1.t.n + 1) x1.l.s (some ⟨g2, 0, none⟩) x1.l.n (x1.l.n + 1) W (by omega) HK.out hbz)
  clear hBX
  go_wp2_with fail
  with_reducible refine NM.out.mono ?_
  rintro e W' hk
  obtain ⟨⟨u, rfl⟩, v', hk1, hk2⟩ := hk
  have HK := Lib.hid hk1
  have HW := Lib.hid (HW.out.trans hk2)
  clear hk1 hk2 NM y0 y1 y2 y3 x4 x5 hbz
  obtain ⟨W, rfl⟩ : ∃ W, W = W' := ⟨_, rfl⟩
  have hbz : B ≤ W.heap.size := Nat.le_trans (by rw [HBe.out]; exact Nat.le_refl _) HW.out.size
  have hBX := BX12.out.below (by rw [← HBe.out]; exact HW.out) BX12.out.lt
  have y0 := hBX.cell (i := 0) rfl
  have y1 := hBX.cell (i := 1) rfl
  have y2 := hBX.cell (i := 2) rfl
  have y3 := hBX.cell (i := 3) rfl
  have x4 := hBX.fz
  have x5 := hBX.lt
  have NM := Lib.hid (bookFrac_any B 2 _ _ x10.t.s x10.t.a x10.t.n x10.t.c x10.l.s x10.l.a x10.l.n x10.l.c W (by omega) HK.out hbz)
  clear hBX
  go_wp2_with fail
  with_reducible refine NM.out.mono ?_
  rintro e W' hk
  obtain ⟨⟨u, rfl⟩, v', hk1, hk2⟩ := hk
  have HK := Lib.hid hk1
  have HW := Lib.hid (HW.out.trans hk2)
  clear hk1 hk2 NM y0 y1 y2 y3 x4 x5 hbz
  obtain ⟨W, rfl⟩ : ∃ W, W = W' := ⟨_, rfl⟩
  have AP := Lib.hid (apart_own (w0 := w) HA.out HBe.out.symm HW.out HK.out rfl (Nat.zero_lt_succ 3) (show 4 ≤ 1000 by omega) (by
    intro x hx
    simp only [List.mem_cons, List.mem_nil_iff, or_false] at hx
    have h1 := Bx1.out
    have h2 := HXN.out
    rcases hx with rfl | rfl | rfl | rfl <;> dsimp only <;> omega) HLO.out (by rw [HBe.out]; exact HLS.out) (KG.out.trans (HW.out.mono (by rw [HBe.out]; exact KG.out.size))) (Nat.le_trans (Nat.le_trans KG.out.size (by rw [← HBe.out]; exact Nat.le_refl _)) (Nat.le_trans (by rw [HBe.out]; exact Nat.le_refl _) HW.out.size)))
  go_wp2_with fail
  with_reducible refine AP.out.mono ?_
  rintro e W' ⟨rfl, hb⟩
  have HF := Lib.hid hb
  clear hb AP
  go_wp2_with fail
  go_ret
  exact ⟨rfl, HF.out⟩
set_option maxRecDepth 100000 in
set_option maxHeartbeats 8000000 in
theorem texts_bad_cc {cc : Int} (x1 : FV) (o1 o2 : Nat → Int) (s : ByteArray) (w : World) (htab : Tab w) (hr1 : Rd w x1.t.a x1.t.n o1) (l1 : x1.t.n ≤ x1.t.c) (hr2 : Rd w x1.l.a x1.l.n o2) (l2 : x1.l.n ≤ x1.l.c) (b1 : LF x1 25) (hk : ¬ okF x1.t.s x1.t.n o1 x1.l.s x1.l.n o2) (hs : s.size ≤ 2000) (hc : codeF s.data.toList = cc) (hcz : cc ≠ 0) : Calls Tryz.prog 3 #[x1.v, .string s] w fun e w' => e = .returned (.bool true) ∧ Below w.heap.size w w' := by
  have HT := Lib.hid htab
  have KG := Lib.hid (Below.refl w.heap.size w)
  have HR1 := Lib.hid hr1
  have HR2 := Lib.hid hr2
  have Bx1 := Lib.hid b1
  have HOK := Lib.hid hk
  have N1 := Lib.hid (BF.raw hr1 l1 hr2 l2 hk)
  have LQ0 := Lib.hid (show LQ (0 : Rat) 101 from (LQ.int (n := 0) (by decide) (by decide)).up (by decide))
  obtain ⟨vd, hvd⟩ : ∃ b, b = decide (((0 : Rat).den : Int) = 1) := ⟨_, rfl⟩
  have HVD := Lib.hid hvd.symm
  obtain ⟨TA, hTA⟩ : ∃ t : ByteArray, t = ⟨(textQ (0 : Rat)).toArray⟩ := ⟨_, rfl⟩
  have HTA := Lib.hid hTA.symm
  clear hvd hTA
  have HS := Lib.hid hs
  have HSM := Lib.hid (show s.size ≤ 9223372036854775807 by omega)
  have HSM6 := Lib.hid (show s.size ≤ 9223372036854775806 by omega)
  have HC := Lib.hid hc
  have HCZ := Lib.hid hcz
  clear hs hc hcz
  clear htab hr1 hr2 l1 l2 b1 hk
  go_enter Tryz.func3, Tryz.ntmps3
  go_upto_region 1 with (fail)
  obtain ⟨v2, hV⟩ : ∃ V, V = w.alloc (.cells #[.bool x1.t.s, .slice x1.t.a x1.t.n x1.t.c, .bool x1.l.s, .slice x1.l.a x1.l.n x1.l.c] 26) := ⟨_, rfl⟩
  have hbV : Below w.heap.size w v2 := by rw [hV]; exact ((Below.refl _ _).alloc (Nat.le_refl _) _)
  have BX1 := Lib.hid (show Bxs v2 (w.heap.size) 26 [.bool x1.t.s, .slice x1.t.a x1.t.n x1.t.c, .bool x1.l.s, .slice x1.l.a x1.l.n x1.l.c] by have h := Bxs.new (w) 26 [.bool x1.t.s, .slice x1.t.a x1.t.n x1.t.c, .bool x1.l.s, .slice x1.l.a x1.l.n x1.l.c]; rw [hV]; exact h)
  rw [show w.alloc (.cells #[.bool x1.t.s, .slice x1.t.a x1.t.n x1.t.c, .bool x1.l.s, .slice x1.l.a x1.l.n x1.l.c] 26) = v2 from hV.symm]
  have KG := Lib.hid (KG.out.trans (hbV.mono KG.out.size))
  clear hV hbV
  have gs : ¬ ((s.size : Int) > 2000) := by have := HS.out; omega
  have cBX10 := BX1.out.cell (i := 0) rfl
  have cBX11 := BX1.out.cell (i := 1) rfl
  have cBX12 := BX1.out.cell (i := 2) rfl
  have cBX13 := BX1.out.cell (i := 3) rfl
  have cBX1f := BX1.out.fz
  have cBX1l := BX1.out.lt
  go_wp2_with fail
  clear cBX10 cBX11 cBX12 cBX13 cBX1f cBX1l
  obtain ⟨v4, hV⟩ : ∃ V, V = v2.alloc (.cells #[.bool x1.t.s, .slice x1.t.a x1.t.n x1.t.c, .bool x1.l.s, .slice x1.l.a x1.l.n x1.l.c] 26) := ⟨_, rfl⟩
  have hbV : Below v2.heap.size v2 v4 := by rw [hV]; exact ((Below.refl _ _).alloc (Nat.le_refl _) _)
  have BX3 := Lib.hid (show Bxs v4 (v2.heap.size) 26 [.bool x1.t.s, .slice x1.t.a x1.t.n x1.t.c, .bool x1.l.s, .slice x1.l.a x1.l.n x1.l.c] by have h := Bxs.new (v2) 26 [.bool x1.t.s, .slice x1.t.a x1.t.n x1.t.c, .bool x1.l.s, .slice x1.l.a x1.l.n x1.l.c]; rw [hV]; exact h)
  rw [show v2.alloc (.cells #[.bool x1.t.s, .slice x1.t.a x1.t.n x1.t.c, .bool x1.l.s, .slice x1.l.a x1.l.n x1.l.c] 26) = v4 from hV.symm]
  have BX1 := Lib.hid (BX1.out.below hbV BX1.out.lt)
  have KG := Lib.hid (KG.out.trans (hbV.mono KG.out.size))
  clear hV hbV
  have cBX10 := BX1.out.cell (i := 0) rfl
  have cBX11 := BX1.out.cell (i := 1) rfl
  have cBX12 := BX1.out.cell (i := 2) rfl
  have cBX13 := BX1.out.cell (i := 3) rfl
  have cBX1f := BX1.out.fz
  have cBX1l := BX1.out.lt
  have CT := Lib.hid (qgreat1 (M := 25) BX3.out)
  rw [show ((25 : Nat) : Int) = 25 from rfl, show decide ((25 < x1.t.n ∨ 25 < x1.l.n)) = false from decide_eq_false (by have g0 := Bx1.out; omega)] at CT
  with_reducible refine CT.out.mono ?_
  rintro e w5 ⟨rfl, hb⟩
  clear CT
  clear cBX10 cBX11 cBX12 cBX13 cBX1f cBX1l
  have BX1 := Lib.hid (BX1.out.below hb BX1.out.lt)
  clear BX3
  have KG := Lib.hid (KG.out.trans (hb.mono KG.out.size))
  clear hb
  have cBX10 := BX1.out.cell (i := 0) rfl
  have cBX11 := BX1.out.cell (i := 1) rfl
  have cBX12 := BX1.out.cell (i := 2) rfl
  have cBX13 := BX1.out.cell (i := 3) rfl
  have cBX1f := BX1.out.fz
  have cBX1l := BX1.out.lt
  go_wp2_with fail
  have HA := Lib.hid (OwnAll.nil w5.heap.size w5)
  have HLS := Lib.hid (Nat.le_refl w5.heap.size)
  have HLO := Lib.hid (show w.heap.size ≤ w5.heap.size from KG.out.size)
  with_reducible refine (twinFrac_any x1.t.s x1.t.a x1.t.n x1.t.c o1 x1.l.s x1.l.a x1.l.n x1.l.c o2 w5 (HR1.out.below KG.out) (by have := Bx1.out.1; omega) (HR2.out.below KG.out) (by have := Bx1.out.2; omega)).mono ?_
  rintro e w6 ⟨g1, g2, rfl, hO1, hO2, hne, hb⟩
  have ho1 : Own 80 w6 w5.heap.size (some ⟨g1, 0, none⟩) x1.t.n (x1.t.n + 1) o1 := (hO1.less (by omega)).congr fun i hi => (if_pos hi)
  have ho2 : Own 80 w6 w5.heap.size (some ⟨g2, 0, none⟩) x1.l.n (x1.l.n + 1) o2 := (hO2.less (by omega)).congr fun i hi => (if_pos hi)
  have hap : Apart2 (some ⟨g1, 0, none⟩) (some ⟨g2, 0, none⟩) := fun p q hp hq e => by cases hp; cases hq; exact hne e
  have HT1 := Lib.hid hO1
  have HT2 := Lib.hid hO2
  have NX := Lib.hid (BF.raw (s1 := x1.t.s) (s2 := x1.l.s) ho1.rd ho1.le ho2.rd ho2.le HOK.out)
  clear cBX10 cBX11 cBX12 cBX13 cBX1f cBX1l
  have hA1 := HA.out.more2 HLS.out hb (x := ⟨0, x1.t.s, some ⟨g1, 0, none⟩, x1.t.n, x1.t.n + 1, o1⟩) (y := ⟨0, x1.l.s, some ⟨g2, 0, none⟩, x1.l.n, x1.l.n + 1, o2⟩) ho1 ho2 hap
  have HA := Lib.hid hA1
  clear hA1
  simp only [List.nil_append, List.cons_append] at HA
  have HLS := Lib.hid (Nat.le_trans HLS.out hb.size)
  have BX1 := Lib.hid (BX1.out.below hb BX1.out.lt)
  have KG := Lib.hid (KG.out.trans (hb.mono KG.out.size))
  clear hb ho1 ho2 hap hne hO1 hO2
  go_upto_region 4 with (fail)
  obtain ⟨v8, hV⟩ : ∃ V, V = w6.alloc (.cells #[.bool x1.t.s, .slice (some ⟨g1, 0, none⟩) x1.t.n (x1.t.n + 1), .bool x1.l.s, .slice (some ⟨g2, 0, none⟩) x1.l.n (x1.l.n + 1)] 26) := ⟨_, rfl⟩
  have hbV : Below w6.heap.size w6 v8 := by rw [hV]; exact ((Below.refl _ _).alloc (Nat.le_refl _) _)
  have BX7 := Lib.hid (show Bxs v8 (w6.heap.size) 26 [.bool x1.t.s, .slice (some ⟨g1, 0, none⟩) x1.t.n (x1.t.n + 1), .bool x1.l.s, .slice (some ⟨g2, 0, none⟩) x1.l.n (x1.l.n + 1)] by have h := Bxs.new (w6) 26 [.bool x1.t.s, .slice (some ⟨g1, 0, none⟩) x1.t.n (x1.t.n + 1), .bool x1.l.s, .slice (some ⟨g2, 0, none⟩) x1.l.n (x1.l.n + 1)]; rw [hV]; exact h)
  rw [show w6.alloc (.cells #[.bool x1.t.s, .slice (some ⟨g1, 0, none⟩) x1.t.n (x1.t.n + 1), .bool x1.l.s, .slice (some ⟨g2, 0, none⟩) x1.l.n (x1.l.n + 1)] 26) = v8 from hV.symm]
  have HA := Lib.hid (HA.out.below hbV)
  have HLS := Lib.hid (Nat.le_trans HLS.out hbV.size)
  have HT1 := Lib.hid (HT1.out.below hbV)
  have HT2 := Lib.hid (HT2.out.below hbV)
  have NX := Lib.hid (NX.out.below hbV)
  have BX1 := Lib.hid (BX1.out.below hbV BX1.out.lt)
  have KG := Lib.hid (KG.out.trans (hbV.mono KG.out.size))
  clear hV hbV
  go_wp2_with fail
  have CT := Lib.hid (qparse_c v8 HSM.out HC.out HCZ.out)
  with_reducible refine CT.out.mono ?_
  rintro e w9 ⟨rfl, hb⟩
  clear CT
  have hA1 := HA.out.more2 HLS.out hb (x := ⟨0, false, none, 0, 0, fun _ => 0⟩) (y := ⟨0, false, none, 0, 0, fun _ => 0⟩) own0 own0 (fun p q hp => by cases hp)
  have HA := Lib.hid hA1
  clear hA1
  simp only [List.nil_append, List.cons_append] at HA
  have HLS := Lib.hid (Nat.le_trans HLS.out hb.size)
  have HT1 := Lib.hid (HT1.out.below hb)
  have HT2 := Lib.hid (HT2.out.below hb)
  have NX := Lib.hid (NX.out.below hb)
  have BX1 := Lib.hid (BX1.out.below hb BX1.out.lt)
  have BX7 := Lib.hid (BX7.out.below hb BX7.out.lt)
  have KG := Lib.hid (KG.out.trans (hb.mono KG.out.size))
  clear hb
  go_upto_region 5 with (fail)
  obtain ⟨v11, hV⟩ : ∃ V, V = w9.alloc (.cells #[.bool false, .slice none 0 0, .bool false, .slice none 0 0] 26) := ⟨_, rfl⟩
  have hbV : Below w9.heap.size w9 v11 := by rw [hV]; exact ((Below.refl _ _).alloc (Nat.le_refl _) _)
  have BX10 := Lib.hid (show Bxs v11 (w9.heap.size) 26 [.bool false, .slice none 0 0, .bool false, .slice none 0 0] by have h := Bxs.new (w9) 26 [.bool false, .slice none 0 0, .bool false, .slice none 0 0]; rw [hV]; exact h)
  rw [show w9.alloc (.cells #[.bool false, .slice none 0 0, .bool false, .slice none 0 0] 26) = v11 from hV.symm]
  have HA := Lib.hid (HA.out.below hbV)
  have HLS := Lib.hid (Nat.le_trans HLS.out hbV.size)
  have HT1 := Lib.hid (HT1.out.below hbV)
  have HT2 := Lib.hid (HT2.out.below hbV)
  have NX := Lib.hid (NX.out.below hbV)
  have BX1 := Lib.hid (BX1.out.below hbV BX1.out.lt)
  have BX7 := Lib.hid (BX7.out.below hbV BX7.out.lt)
  have KG := Lib.hid (KG.out.trans (hbV.mono KG.out.size))
  clear hV hbV
  go_wp2_with fail
  have CT := Lib.hid (rq_c v11 HSM6.out HC.out HCZ.out)
  with_reducible refine CT.out.mono ?_
  rintro e w12 ⟨rfl, hb⟩
  clear CT
  have HA := Lib.hid (HA.out.below hb)
  have HLS := Lib.hid (Nat.le_trans HLS.out hb.size)
  have HT1 := Lib.hid (HT1.out.below hb)
  have HT2 := Lib.hid (HT2.out.below hb)
  have NX := Lib.hid (NX.out.below hb)
  have BX1 := Lib.hid (BX1.out.below hb BX1.out.lt)
  have BX7 := Lib.hid (BX7.out.below hb BX7.out.lt)
  have BX10 := Lib.hid (BX10.out.below hb BX10.out.lt)
  have KG := Lib.hid (KG.out.trans (hb.mono KG.out.size))
  clear hb
  go_upto_region 6 with (fail)
  obtain ⟨v14, hV⟩ : ∃ V, V = w12.alloc (.cells #[.bool false, .slice none 0 0, .bool false, .slice none 0 0] 26) := ⟨_, rfl⟩
  have hbV : Below w12.heap.size w12 v14 := by rw [hV]; exact ((Below.refl _ _).alloc (Nat.le_refl _) _)
  have BX13 := Lib.hid (show Bxs v14 (w12.heap.size) 26 [.bool false, .slice none 0 0, .bool false, .slice none 0 0] by have h := Bxs.new (w12) 26 [.bool false, .slice none 0 0, .bool false, .slice none 0 0]; rw [hV]; exact h)
  rw [show w12.alloc (.cells #[.bool false, .slice none 0 0, .bool false, .slice none 0 0] 26) = v14 from hV.symm]
  have HA := Lib.hid (HA.out.below hbV)
  have HLS := Lib.hid (Nat.le_trans HLS.out hbV.size)
  have HT1 := Lib.hid (HT1.out.below hbV)
  have HT2 := Lib.hid (HT2.out.below hbV)
  have NX := Lib.hid (NX.out.below hbV)
  have BX1 := Lib.hid (BX1.out.below hbV BX1.out.lt)
  have BX7 := Lib.hid (BX7.out.below hbV BX7.out.lt)
  have BX10 := Lib.hid (BX10.out.below hbV BX10.out.lt)
  have KG := Lib.hid (KG.out.trans (hbV.mono KG.out.size))
  clear hV hbV
  go_upto_region 6 with (fail)
  refine Go.FreshS.wp_region_fresh 35 [] (Go.FreshS.spOf [(1, Go.FreshS.Sp.know (.bool false)), (3, Go.FreshS.Sp.know (.bool false)), (7, Go.FreshS.Sp.know (.bool vd)), (9, Go.FreshS.Sp.know (.bool vd)), (14, Go.FreshS.Sp.know (.string TA)), (16, Go.FreshS.Sp.know (.string TA)), (22, Go.FreshS.Sp.know (.bool true)), (33, Go.FreshS.Sp.know (.bool true))])
    (fun w' => Below v14.heap.size v14 w') (by kernel_rfl) (by kernel_rfl) (by kernel_rfl)
    (Go.FreshS.spOf_cons (Go.FreshS.Sp.know_keeps _ _) (Go.FreshS.spOf_cons (Go.FreshS.Sp.know_keeps _ _) (Go.FreshS.spOf_cons (Go.FreshS.Sp.know_keeps _ _) (Go.FreshS.spOf_cons (Go.FreshS.Sp.know_keeps _ _) (Go.FreshS.spOf_cons (Go.FreshS.Sp.know_keeps _ _) (Go.FreshS.spOf_cons (Go.FreshS.Sp.know_keeps _ _) (Go.FreshS.spOf_cons (Go.FreshS.Sp.know_keeps _ _) (Go.FreshS.spOf_cons (Go.FreshS.Sp.know_keeps _ _) (Go.FreshS.spOf_nil))))))))) (fun _ _ h hb => h.trans (hb.mono h.size)) ((Below.refl _ _).drew) ?_
  simp only [List.append_eq, List.cons_append, List.nil_append, List.take_succ_cons, List.take_zero, List.drop_succ_cons, List.drop_zero]
  refine Go.FreshS.wpF_reads rfl rfl rfl ?_ (fun w' hw' => ?_) ?_
  rotate_left
  · have hb' := hw'.world
    have hs0 := (BX7.out.below hb' BX7.out.lt).cell (i := 0) rfl
    have hs1 := (BX7.out.below hb' BX7.out.lt).cell (i := 1) rfl
    have hs2 := (BX7.out.below hb' BX7.out.lt).cell (i := 2) rfl
    have hs3 := (BX7.out.below hb' BX7.out.lt).cell (i := 3) rfl
    have hsf := (BX7.out.below hb' BX7.out.lt).fz
    have hsl := (BX7.out.below hb' BX7.out.lt).lt
    clear hw'
    go_simp
    try rfl
  conv => arg 10; simp only [Act.put, List.setIfInBounds_toArray, List.set_cons_succ, List.set_cons_zero]
  refine Go.FreshS.wpF_spec rfl rfl rfl (fun w' hw' => ?_) ?_
  · have hb' := hw'.world
    refine Go.FreshS.gives_of (Go.FreshS.PK (.bool false)) ?_ (fun _ _ h => h.post)
    go_simp
    have CT := qcheckB (NX.out.below hb') (LF.up Bx1.out (by decide : _ ≤ 900000))
    refine CT.mono ?_
    rintro e w'' ⟨rfl, hb⟩
    exact ⟨_, rfl, rfl, hb⟩
  rintro _ rfl
  conv => arg 10; simp only [Act.put, List.setIfInBounds_toArray, List.set_cons_succ, List.set_cons_zero]
  refine Go.FreshS.wpF_reads rfl rfl rfl ?_ (fun w' hw' => ?_) ?_
  rotate_left
  · have hb' := hw'.world
    have hs0 := (BX1.out.below hb' BX1.out.lt).cell (i := 0) rfl
    have hs1 := (BX1.out.below hb' BX1.out.lt).cell (i := 1) rfl
    have hs2 := (BX1.out.below hb' BX1.out.lt).cell (i := 2) rfl
    have hs3 := (BX1.out.below hb' BX1.out.lt).cell (i := 3) rfl
    have hsf := (BX1.out.below hb' BX1.out.lt).fz
    have hsl := (BX1.out.below hb' BX1.out.lt).lt
    clear hw'
    go_simp
    try rfl
  conv => arg 10; simp only [Act.put, List.setIfInBounds_toArray, List.set_cons_succ, List.set_cons_zero]
  refine Go.FreshS.wpF_spec rfl rfl rfl (fun w' hw' => ?_) ?_
  · have hb' := hw'.world
    refine Go.FreshS.gives_of (Go.FreshS.PK (.bool false)) ?_ (fun _ _ h => h.post)
    go_simp
    have CT := rcheckB (N1.out.below (KG.out.trans (hb'.mono KG.out.size))) (LF.up Bx1.out (by decide : _ ≤ 900000))
    refine CT.mono ?_
    rintro e w'' ⟨rfl, hb⟩
    exact ⟨_, rfl, rfl, hb⟩
  rintro _ rfl
  conv => arg 10; simp only [Act.put, List.setIfInBounds_toArray, List.set_cons_succ, List.set_cons_zero]
  refine Go.FreshS.wpF_reads rfl rfl rfl ?_ (fun w' hw' => ?_) ?_
  rotate_left
  · have hb' := hw'.world
    skip
    clear hw'
    go_simp
    try rfl
  conv => arg 10; simp only [Act.put, List.setIfInBounds_toArray, List.set_cons_succ, List.set_cons_zero]
  refine Go.FreshS.wpF_reads rfl rfl rfl ?_ (fun w' hw' => ?_) ?_
  rotate_left
  · have hb' := hw'.world
    skip
    clear hw'
    go_simp
    try rfl
  conv => arg 10; simp only [Act.put, List.setIfInBounds_toArray, List.set_cons_succ, List.set_cons_zero]
  refine Go.FreshS.wpF_readsG (by rfl) rfl rfl ?_ (fun w' hw' => ?_) ?_
  rotate_left
  · have hb' := hw'.world
    have hs0 := (BX7.out.below hb' BX7.out.lt).cell (i := 0) rfl
    have hs1 := (BX7.out.below hb' BX7.out.lt).cell (i := 1) rfl
    have hs2 := (BX7.out.below hb' BX7.out.lt).cell (i := 2) rfl
    have hs3 := (BX7.out.below hb' BX7.out.lt).cell (i := 3) rfl
    have hsf := (BX7.out.below hb' BX7.out.lt).fz
    have hsl := (BX7.out.below hb' BX7.out.lt).lt
    clear hw'
    go_simp
    try rfl
  conv => arg 10; simp only [Act.put, List.setIfInBounds_toArray, List.set_cons_succ, List.set_cons_zero]
  refine Go.FreshS.wpF_gspec (by rfl) rfl rfl (fun w' hw' => ?_) ?_
  · have hb' := hw'.world
    refine Go.FreshS.gives_of (Go.FreshS.PK (.bool vd)) ?_ (fun _ _ h => h.post)
    go_simp
    have CT := qwhole (⟨⟨x1.t.s, some ⟨g1, 0, none⟩, x1.t.n, x1.t.n + 1⟩, ⟨x1.l.s, some ⟨g2, 0, none⟩, x1.l.n, x1.l.n + 1⟩⟩ : FV) (0 : Rat) w' ((NX.out.below hb')).any (LF.up Bx1.out (by decide : _ ≤ 100)) LQ0.out
    rw [show decide (((0 : Rat).den : Int) = 1) = vd from HVD.out] at CT
    refine CT.mono ?_
    rintro e w'' ⟨rfl, hb⟩
    exact ⟨_, rfl, rfl, hb⟩
  rintro _ rfl
  conv => arg 10; simp only [Act.put, List.setIfInBounds_toArray, List.set_cons_succ, List.set_cons_zero]
  refine Go.FreshS.wpF_readsG (by rfl) rfl rfl ?_ (fun w' hw' => ?_) ?_
  rotate_left
  · have hb' := hw'.world
    have hs0 := (BX1.out.below hb' BX1.out.lt).cell (i := 0) rfl
    have hs1 := (BX1.out.below hb' BX1.out.lt).cell (i := 1) rfl
    have hs2 := (BX1.out.below hb' BX1.out.lt).cell (i := 2) rfl
    have hs3 := (BX1.out.below hb' BX1.out.lt).cell (i := 3) rfl
    have hsf := (BX1.out.below hb' BX1.out.lt).fz
    have hsl := (BX1.out.below hb' BX1.out.lt).lt
    clear hw'
    go_simp
    try rfl
  conv => arg 10; simp only [Act.put, List.setIfInBounds_toArray, List.set_cons_succ, List.set_cons_zero]
  refine Go.FreshS.wpF_gspec (by rfl) rfl rfl (fun w' hw' => ?_) ?_
  · have hb' := hw'.world
    refine Go.FreshS.gives_of (Go.FreshS.PK (.bool vd)) ?_ (fun _ _ h => h.post)
    go_simp
    have CT := rwholeQ x1 (0 : Rat) w' ((N1.out.below (KG.out.trans (hb'.mono KG.out.size)))).any (LF.up Bx1.out (by decide : _ ≤ 100)) LQ0.out
    rw [show decide (((0 : Rat).den : Int) = 1) = vd from HVD.out] at CT
    refine CT.mono ?_
    rintro e w'' ⟨rfl, hb⟩
    exact ⟨_, rfl, rfl, hb⟩
  rintro _ rfl
  conv => arg 10; simp only [Act.put, List.setIfInBounds_toArray, List.set_cons_succ, List.set_cons_zero]
  refine Go.FreshS.wpF_readsG (by rfl) rfl rfl ?_ (fun w' hw' => ?_) ?_
  rotate_left
  · have hb' := hw'.world
    skip
    clear hw'
    go_simp
    try rfl
  conv => arg 10; simp only [Act.put, List.setIfInBounds_toArray, List.set_cons_succ, List.set_cons_zero]
  refine Go.FreshS.wpF_reads rfl rfl rfl ?_ (fun w' hw' => ?_) ?_
  rotate_left
  · have hb' := hw'.world
    skip
    clear hw'
    go_simp
    try rfl
  conv => arg 10; simp only [Act.put, List.setIfInBounds_toArray, List.set_cons_succ, List.set_cons_zero]
  refine Go.FreshS.wpF_reads rfl rfl rfl ?_ (fun w' hw' => ?_) ?_
  rotate_left
  · have hb' := hw'.world
    skip
    clear hw'
    go_simp
    try rfl
  conv => arg 10; simp only [Act.put, List.setIfInBounds_toArray, List.set_cons_succ, List.set_cons_zero]
  refine Go.FreshS.wpF_readsG (by rfl) rfl rfl ?_ (fun w' hw' => ?_) ?_
  rotate_left
  · have hb' := hw'.world
    have hs0 := (BX7.out.below hb' BX7.out.lt).cell (i := 0) rfl
    have hs1 := (BX7.out.below hb' BX7.out.lt).cell (i := 1) rfl
    have hs2 := (BX7.out.below hb' BX7.out.lt).cell (i := 2) rfl
    have hs3 := (BX7.out.below hb' BX7.out.lt).cell (i := 3) rfl
    have hsf := (BX7.out.below hb' BX7.out.lt).fz
    have hsl := (BX7.out.below hb' BX7.out.lt).lt
    clear hw'
    go_simp
    try rfl
  conv => arg 10; simp only [Act.put, List.setIfInBounds_toArray, List.set_cons_succ, List.set_cons_zero]
  refine Go.FreshS.wpF_gspec (by rfl) rfl rfl (fun w' hw' => ?_) ?_
  · have hb' := hw'.world
    refine Go.FreshS.gives_of (Go.FreshS.PK (.string TA)) ?_ (fun _ _ h => h.post)
    go_simp
    have CT := qtextA' (⟨⟨x1.t.s, some ⟨g1, 0, none⟩, x1.t.n, x1.t.n + 1⟩, ⟨x1.l.s, some ⟨g2, 0, none⟩, x1.l.n, x1.l.n + 1⟩⟩ : FV) (0 : Rat) w' (HT.out.on (KG.out.trans (hb'.mono KG.out.size))) ((NX.out.below hb')).any (LF.up Bx1.out (by decide : _ ≤ 100)) LQ0.out
    rw [show (⟨(textQ (0 : Rat)).toArray⟩ : ByteArray) = TA from HTA.out] at CT
    refine CT.mono ?_
    rintro e w'' ⟨rfl, hb⟩
    exact ⟨_, rfl, rfl, hb⟩
  rintro _ rfl
  conv => arg 10; simp only [Act.put, List.setIfInBounds_toArray, List.set_cons_succ, List.set_cons_zero]
  refine Go.FreshS.wpF_readsG (by rfl) rfl rfl ?_ (fun w' hw' => ?_) ?_
  rotate_left
  · have hb' := hw'.world
    have hs0 := (BX1.out.below hb' BX1.out.lt).cell (i := 0) rfl
    have hs1 := (BX1.out.below hb' BX1.out.lt).cell (i := 1) rfl
    have hs2 := (BX1.out.below hb' BX1.out.lt).cell (i := 2) rfl
    have hs3 := (BX1.out.below hb' BX1.out.lt).cell (i := 3) rfl
    have hsf := (BX1.out.below hb' BX1.out.lt).fz
    have hsl := (BX1.out.below hb' BX1.out.lt).lt
    clear hw'
    go_simp
    try rfl
  conv => arg 10; simp only [Act.put, List.setIfInBounds_toArray, List.set_cons_succ, List.set_cons_zero]
  refine Go.FreshS.wpF_gspec (by rfl) rfl rfl (fun w' hw' => ?_) ?_
  · have hb' := hw'.world
    refine Go.FreshS.gives_of (Go.FreshS.PK (.string TA)) ?_ (fun _ _ h => h.post)
    go_simp
    have CT := rtextQ x1 (0 : Rat) w' ((N1.out.below (KG.out.trans (hb'.mono KG.out.size)))).any (LF.up Bx1.out (by decide : _ ≤ 100)) LQ0.out
    rw [show (⟨(textQ (0 : Rat)).toArray⟩ : ByteArray) = TA from HTA.out] at CT
    refine CT.mono ?_
    rintro e w'' ⟨rfl, hb⟩
    exact ⟨_, rfl, rfl, hb⟩
  rintro _ rfl
  conv => arg 10; simp only [Act.put, List.setIfInBounds_toArray, List.set_cons_succ, List.set_cons_zero]
  refine Go.FreshS.wpF_readsG (by rfl) rfl rfl ?_ (fun w' hw' => ?_) ?_
  rotate_left
  · have hb' := hw'.world
    skip
    clear hw'
    go_simp
    try rfl
  conv => arg 10; simp only [Act.put, List.setIfInBounds_toArray, List.set_cons_succ, List.set_cons_zero]
  refine Go.FreshS.wpF_reads rfl rfl rfl ?_ (fun w' hw' => ?_) ?_
  rotate_left
  · have hb' := hw'.world
    skip
    clear hw'
    go_simp
    try rfl
  conv => arg 10; simp only [Act.put, List.setIfInBounds_toArray, List.set_cons_succ, List.set_cons_zero]
  refine Go.FreshS.wpF_reads rfl rfl rfl ?_ (fun w' hw' => ?_) ?_
  rotate_left
  · have hb' := hw'.world
    skip
    clear hw'
    go_simp
    try rfl
  conv => arg 10; simp only [Act.put, List.setIfInBounds_toArray, List.set_cons_succ, List.set_cons_zero]
  refine Go.FreshS.wpF_readsG (by rfl) rfl rfl ?_ (fun w' hw' => ?_) ?_
  rotate_left
  · have hb' := hw'.world
    have hs0 := (BX10.out.below hb' BX10.out.lt).cell (i := 0) rfl
    have hs1 := (BX10.out.below hb' BX10.out.lt).cell (i := 1) rfl
    have hs2 := (BX10.out.below hb' BX10.out.lt).cell (i := 2) rfl
    have hs3 := (BX10.out.below hb' BX10.out.lt).cell (i := 3) rfl
    have hsf := (BX10.out.below hb' BX10.out.lt).fz
    have hsl := (BX10.out.below hb' BX10.out.lt).lt
    clear hw'
    go_simp
    try rfl
  conv => arg 10; simp only [Act.put, List.setIfInBounds_toArray, List.set_cons_succ, List.set_cons_zero]
  refine Go.FreshS.wpF_readsG (by rfl) rfl rfl ?_ (fun w' hw' => ?_) ?_
  rotate_left
  · have hb' := hw'.world
    have hs0 := (BX13.out.below hb' BX13.out.lt).cell (i := 0) rfl
    have hs1 := (BX13.out.below hb' BX13.out.lt).cell (i := 1) rfl
    have hs2 := (BX13.out.below hb' BX13.out.lt).cell (i := 2) rfl
    have hs3 := (BX13.out.below hb' BX13.out.lt).cell (i := 3) rfl
    have hsf := (BX13.out.below hb' BX13.out.lt).fz
    have hsl := (BX13.out.below hb' BX13.out.lt).lt
    clear hw'
    go_simp
    try rfl
  conv => arg 10; simp only [Act.put, List.setIfInBounds_toArray, List.set_cons_succ, List.set_cons_zero]
  refine Go.FreshS.wpF_gspec (by rfl) rfl rfl (fun w' hw' => ?_) ?_
  · have hb' := hw'.world
    refine Go.FreshS.gives_of (Go.FreshS.PK (.bool true)) ?_ (fun _ _ h => h.post)
    go_simp
    have CT := qsame0 w'
    refine CT.mono ?_
    rintro e w'' ⟨rfl, hb⟩
    exact ⟨_, rfl, rfl, hb⟩
  rintro _ rfl
  conv => arg 10; simp only [Act.put, List.setIfInBounds_toArray, List.set_cons_succ, List.set_cons_zero]
  refine Go.FreshS.wpF_readsG (by rfl) rfl rfl ?_ (fun w' hw' => ?_) ?_
  rotate_left
  · have hb' := hw'.world
    skip
    clear hw'
    go_simp
    try rfl
  conv => arg 10; simp only [Act.put, List.setIfInBounds_toArray, List.set_cons_succ, List.set_cons_zero]
  refine Go.FreshS.wpF_reads rfl rfl rfl ?_ (fun w' hw' => ?_) ?_
  rotate_left
  · have hb' := hw'.world
    skip
    clear hw'
    go_simp
    try rfl
  conv => arg 10; simp only [Act.put, List.setIfInBounds_toArray, List.set_cons_succ, List.set_cons_zero]
  refine Go.FreshS.wpF_reads rfl rfl rfl ?_ (fun w' hw' => ?_) ?_
  rotate_left
  · have hb' := hw'.world
    skip
    clear hw'
    go_simp
    try rfl
  conv => arg 10; simp only [Act.put, List.setIfInBounds_toArray, List.set_cons_succ, List.set_cons_zero]
  refine Go.FreshS.wpF_readsG (by rfl) rfl rfl ?_ (fun w' hw' => ?_) ?_
  rotate_left
  · have hb' := hw'.world
    skip
    clear hw'
    go_simp
    try rfl
  conv => arg 10; simp only [Act.put, List.setIfInBounds_toArray, List.set_cons_succ, List.set_cons_zero]
  refine Go.FreshS.wpF_readsG (by rfl) rfl rfl ?_ (fun w' hw' => ?_) ?_
  rotate_left
  · have hb' := hw'.world
    skip
    clear hw'
    go_simp
    try rfl
  conv => arg 10; simp only [Act.put, List.setIfInBounds_toArray, List.set_cons_succ, List.set_cons_zero]
  refine Go.FreshS.wpF_readsG (by rfl) rfl rfl ?_ (fun w' hw' => ?_) ?_
  rotate_left
  · have hb' := hw'.world
    skip
    clear hw'
    go_simp
    try rfl
  conv => arg 10; simp only [Act.put, List.setIfInBounds_toArray, List.set_cons_succ, List.set_cons_zero]
  refine Go.FreshS.wpF_reads rfl rfl rfl ?_ (fun w' hw' => ?_) ?_
  rotate_left
  · have hb' := hw'.world
    skip
    clear hw'
    go_simp
    try rfl
  conv => arg 10; simp only [Act.put, List.setIfInBounds_toArray, List.set_cons_succ, List.set_cons_zero]
  refine Go.FreshS.wpF_reads rfl rfl rfl ?_ (fun w' hw' => ?_) ?_
  rotate_left
  · have hb' := hw'.world
    skip
    clear hw'
    go_simp
    try rfl
  conv => arg 10; simp only [Act.put, List.setIfInBounds_toArray, List.set_cons_succ, List.set_cons_zero]
  refine Go.FreshS.wpF_readsG (by rfl) rfl rfl ?_ (fun w' hw' => ?_) ?_
  rotate_left
  · have hb' := hw'.world
    have hs0 := (BX7.out.below hb' BX7.out.lt).cell (i := 0) rfl
    have hs1 := (BX7.out.below hb' BX7.out.lt).cell (i := 1) rfl
    have hs2 := (BX7.out.below hb' BX7.out.lt).cell (i := 2) rfl
    have hs3 := (BX7.out.below hb' BX7.out.lt).cell (i := 3) rfl
    have hsf := (BX7.out.below hb' BX7.out.lt).fz
    have hsl := (BX7.out.below hb' BX7.out.lt).lt
    clear hw'
    go_simp
    try rfl
  conv => arg 10; simp only [Act.put, List.setIfInBounds_toArray, List.set_cons_succ, List.set_cons_zero]
  refine Go.FreshS.wpF_readsG (by rfl) rfl rfl ?_ (fun w' hw' => ?_) ?_
  rotate_left
  · have hb' := hw'.world
    have hs0 := (BX1.out.below hb' BX1.out.lt).cell (i := 0) rfl
    have hs1 := (BX1.out.below hb' BX1.out.lt).cell (i := 1) rfl
    have hs2 := (BX1.out.below hb' BX1.out.lt).cell (i := 2) rfl
    have hs3 := (BX1.out.below hb' BX1.out.lt).cell (i := 3) rfl
    have hsf := (BX1.out.below hb' BX1.out.lt).fz
    have hsl := (BX1.out.below hb' BX1.out.lt).lt
    clear hw'
    go_simp
    try rfl
  conv => arg 10; simp only [Act.put, List.setIfInBounds_toArray, List.set_cons_succ, List.set_cons_zero]
  refine Go.FreshS.wpF_gspec (by rfl) rfl rfl (fun w' hw' => ?_) ?_
  · have hb' := hw'.world
    refine Go.FreshS.gives_of (Go.FreshS.PK (.bool true)) ?_ (fun _ _ h => h.post)
    go_simp
    have CT := leftFrac_any x1.t.s g1 x1.t.a x1.t.n x1.t.c o1 x1.l.s g2 x1.l.a x1.l.n x1.l.c o2 w' (HT1.out.below hb').rd (HR1.out.below (KG.out.trans (hb'.mono KG.out.size))) (by have := Bx1.out.1; omega) (HT2.out.below hb').rd (HR2.out.below (KG.out.trans (hb'.mono KG.out.size))) (by have := Bx1.out.2; omega)
    refine CT.mono ?_
    rintro e w'' ⟨rfl, hb⟩
    exact ⟨_, rfl, rfl, hb⟩
  rintro _ rfl
  conv => arg 10; simp only [Act.put, List.setIfInBounds_toArray, List.set_cons_succ, List.set_cons_zero]
  refine Go.FreshS.wpF_readsG (by rfl) rfl rfl ?_ (fun w' hw' => ?_) ?_
  rotate_left
  · have hb' := hw'.world
    skip
    clear hw'
    go_simp
    try rfl
  conv => arg 10; simp only [Act.put, List.setIfInBounds_toArray, List.set_cons_succ, List.set_cons_zero]
  refine Go.FreshS.wpF_nil (fun w15 hb hF => ?_)
  clear hF
  have HA := Lib.hid (HA.out.below hb)
  have HLS := Lib.hid (Nat.le_trans HLS.out hb.size)
  clear HT1
  clear HT2
  clear NX
  clear BX1
  have BX7 := Lib.hid (BX7.out.below hb BX7.out.lt)
  have BX10 := Lib.hid (BX10.out.below hb BX10.out.lt)
  clear BX13
  have KG := Lib.hid (KG.out.trans (hb.mono KG.out.size))
  clear hb
  go_upto_region 8 with (fail)
  go_upto_region 9 with (fail)
  obtain ⟨W, hW⟩ : ∃ W, W = w15.alloc (.cells #[.int .i64 0, .slice none 0 0, .slice none 0 0, .slice none 0 0, .slice none 0 0, .slice none 0 0, .slice none 0 0, .slice none 0 0, .slice none 0 0, .slice none 0 0, .slice none 0 0, .slice none 0 0, .slice none 0 0] 48) := ⟨_, rfl⟩
  have HK := Lib.hid (book_nw w15)
  have HW := Lib.hid (show Below w15.heap.size w15 (w15.alloc (.cells #[.int .i64 0, .slice none 0 0, .slice none 0 0, .slice none 0 0, .slice none 0 0, .slice none 0 0, .slice none 0 0, .slice none 0 0, .slice none 0 0, .slice none 0 0, .slice none 0 0, .slice none 0 0, .slice none 0 0] 48)) from (Below.refl _ _).alloc (Nat.le_refl _) _)
  rw [← hW] at HK HW
  rw [show w15.alloc (.cells #[.int .i64 0, .slice none 0 0, .slice none 0 0, .slice none 0 0, .slice none 0 0, .slice none 0 0, .slice none 0 0, .slice none 0 0, .slice none 0 0, .slice none 0 0, .slice none 0 0, .slice none 0 0, .slice none 0 0] 48) = W from hW.symm]
  clear hW
  obtain ⟨B, hB⟩ : ∃ B, B = w15.heap.size := ⟨_, rfl⟩
  rw [← hB] at HK HW
  rw [← hB]
  have HBe := Lib.hid hB
  clear hB
  have hbz : B ≤ W.heap.size := Nat.le_trans (by rw [HBe.out]; exact Nat.le_refl _) HW.out.size
  have hBX := BX7.out.below (by rw [← HBe.out]; exact HW.out) BX7.out.lt
  have y0 := hBX.cell (i := 0) rfl
  have y1 := hBX.cell (i := 1) rfl
  have y2 := hBX.cell (i := 2) rfl
  have y3 := hBX.cell (i := 3) rfl
  have x4 := hBX.fz
  have x5 := hBX.lt
  have NM := Lib.hid (bookFrac_any B 0 _ _ x1.t.s (some ⟨g1, 0, none⟩) x1.t.n (x1.t.n + 1) x1.l.s (some ⟨g2, 0, none⟩) x1.l.n (x1.l.n + 1) W (by omega) HK.out hbz)
  clear hBX
  go_wp2_with fail
  with_reducible refine NM.out.mono ?_
  rintro e W' hk
  obtain ⟨⟨u, rfl⟩, v', hk1, hk2⟩ := hk
  have HK := Lib.hid hk1
  have HW := Lib.hid (HW.out.trans hk2)
  clear hk1 hk2 NM y0 y1 y2 y3 x4 x5 hbz
  obtain ⟨W, rfl⟩ : ∃ W, W = W' := ⟨_, rfl⟩
  have hbz : B ≤ W.heap.size := Nat.le_trans (by rw [HBe.out]; exact Nat.le_refl _) HW.out.size
  have hBX := BX10.out.below (by rw [← HBe.out]; exact HW.out) BX10.out.lt
  have y0 := hBX.cell (i := 0) rfl
  have y1 := hBX.cell (i := 1) rfl
  have y2 := hBX.cell (i := 2) rfl
  have y3 := hBX.cell (i := 3) rfl
  have x4 := hBX.fz
  have x5 := hBX.lt
  have NM := Lib.hid (bookFrac_any B 2 _ _ false none 0 0 false none 0 0 W (by omega) HK.out hbz)
  clear hBX
  go_wp2_with fail
  with_reducible refine NM.out.mono ?_
  rintro e W' hk
  obtain ⟨⟨u, rfl⟩, v', hk1, hk2⟩ := hk
  have HK := Lib.hid hk1
  have HW := Lib.hid (HW.out.trans hk2)
  clear hk1 hk2 NM y0 y1 y2 y3 x4 x5 hbz
  obtain ⟨W, rfl⟩ : ∃ W, W = W' := ⟨_, rfl⟩
  have AP := Lib.hid (apart_own (w0 := w) HA.out HBe.out.symm HW.out HK.out rfl (Nat.zero_lt_succ 3) (show 4 ≤ 1000 by omega) (by
    intro x hx
    simp only [List.mem_cons, List.mem_nil_iff, or_false] at hx
    have h1 := Bx1.out
    rcases hx with rfl | rfl | rfl | rfl <;> dsimp only <;> omega) HLO.out (by rw [HBe.out]; exact HLS.out) (KG.out.trans (HW.out.mono (by rw [HBe.out]; exact KG.out.size))) (Nat.le_trans (Nat.le_trans KG.out.size (by rw [← HBe.out]; exact Nat.le_refl _)) (Nat.le_trans (by rw [HBe.out]; exact Nat.le_refl _) HW.out.size)))
  go_wp2_with fail
  with_reducible refine AP.out.mono ?_
  rintro e W' ⟨rfl, hb⟩
  have HF := Lib.hid hb
  clear hb AP
  go_wp2_with fail
  go_ret
  exact ⟨rfl, HF.out⟩
theorem fracsTexts_law (s1 : Bool) (a1 : Option Addr) (n1 c1 : Nat) (o1 : Nat → Int) (s2 : Bool) (a2 : Option Addr) (n2 c2 : Nat) (o2 : Nat → Int) (t : ByteArray) (w : World) (htab : Tab w) (h1 : Rd w a1 n1 o1) (hc1 : n1 ≤ c1) (h2 : Rd w a2 n2 o2) (hc2 : n2 ≤ c2) (_ : t.size ≤ 9223372036854775807) :
    Calls Tryz.prog 3 #[.agg #[.bool s1, .slice a1 n1 c1, .bool s2, .slice a2 n2 c2], .string t] w fun e w' => e = .returned (.bool true) ∧ Below w.heap.size w w' := by
  by_cases hg : (25 < n1 ∨ 25 < n2)
  · exact texts_great ⟨⟨s1, a1, n1, c1⟩, ⟨s2, a2, n2, c2⟩⟩ o1 o2 t w htab h1 hc1 h2 hc2 hg
  have b1 : n1 ≤ 25 ∧ n2 ≤ 25 := by omega
  by_cases k1 : okF s1 n1 o1 s2 n2 o2
  · by_cases hs : 2000 < t.size
    · exact texts_long_ok ⟨⟨s1, a1, n1, c1⟩, ⟨s2, a2, n2, c2⟩⟩ o1 o2 t w htab h1 hc1 h2 hc2 b1 k1 hs
    · by_cases hc : codeF t.data.toList = 0
      · exact texts_ok_0 ⟨⟨s1, a1, n1, c1⟩, ⟨s2, a2, n2, c2⟩⟩ o1 o2 t w htab h1 hc1 h2 hc2 b1 k1 (by omega) hc
      · exact texts_ok_cc ⟨⟨s1, a1, n1, c1⟩, ⟨s2, a2, n2, c2⟩⟩ o1 o2 t w htab h1 hc1 h2 hc2 b1 k1 (by omega) rfl hc
  · by_cases hs : 2000 < t.size
    · exact texts_long_bad ⟨⟨s1, a1, n1, c1⟩, ⟨s2, a2, n2, c2⟩⟩ o1 o2 t w htab h1 hc1 h2 hc2 b1 k1 hs
    · by_cases hc : codeF t.data.toList = 0
      · exact texts_bad_0 ⟨⟨s1, a1, n1, c1⟩, ⟨s2, a2, n2, c2⟩⟩ o1 o2 t w htab h1 hc1 h2 hc2 b1 k1 (by omega) hc
      · exact texts_bad_cc ⟨⟨s1, a1, n1, c1⟩, ⟨s2, a2, n2, c2⟩⟩ o1 o2 t w htab h1 hc1 h2 hc2 b1 k1 (by omega) rfl hc
end Go.Proofs.YtklidpbdgliemaaGreatDoor.Limb
