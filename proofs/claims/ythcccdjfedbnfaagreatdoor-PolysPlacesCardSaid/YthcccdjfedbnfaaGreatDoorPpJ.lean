/-
  The walks of only, Letter, and of the law's letter, mul.
-/
import Derived.Test.YthcccdjfedbnfaaGreatDoorPpI
import Derived.Shelf.Spec.SlicesGrow
set_option linter.unusedSimpArgs false
set_option linter.unusedVariables false
namespace Go.Proofs.YthcccdjfedbnfaaGreatDoor.Pol
open Go.RowKit Go.Sort Go.Proofs.YthcccdjfedbnfaaGreatDoor.Limb
theorem one_small : Mo.one.Small := ⟨by decide, by decide, by decide, by decide⟩
theorem lq_one : LQ ((1 : Int) : Rat) 3 := LQ.int (by decide) (by decide)
set_option maxRecDepth 100000 in
set_option maxHeartbeats 4000000 in
theorem of1_any (t : TV) (q : Rat) (w : World) (af : AF w t.c q) (lf : LF t.c 900000) : Calls Tryz.prog 78 #[TV.v t] w fun en w' => ∃ y : FV, en = .returned (TV.v ⟨y, Mo.one⟩) ∧ DF w' w.heap.size y q ∧ Below w.heap.size w w' := by
 have LQq := Lib.hid (af.len lf)
 have HLNF := Lib.hid lf
 obtain ⟨V, hV⟩ : ∃ V, V = (w.alloc (.cells #[.bool t.c.t.s, .slice t.c.t.a t.c.t.n t.c.t.c, .bool t.c.l.s, .slice t.c.l.a t.c.l.n t.c.l.c, .int .u16 t.m.x, .int .u16 t.m.y, .int .u16 t.m.z, .int .u16 t.m.t] 50)).alloc (.cells #[.bool false, .slice none 0 0, .bool false, .slice none 0 0, .int .u16 0, .int .u16 0, .int .u16 0, .int .u16 0] 50) := ⟨_, rfl⟩
 have hbV : Below w.heap.size w V := by rw [hV]; exact ((Below.refl _ _).alloc (Nat.le_refl _) _).alloc (by go_size) _
 have B1 := Lib.hid (show Bxs V w.heap.size 50 [.bool t.c.t.s, .slice t.c.t.a t.c.t.n t.c.t.c, .bool t.c.l.s, .slice t.c.l.a t.c.l.n t.c.l.c, .int .u16 t.m.x, .int .u16 t.m.y, .int .u16 t.m.z, .int .u16 t.m.t] by rw [hV]; exact (Bxs.new w 50 [.bool t.c.t.s, .slice t.c.t.a t.c.t.n t.c.t.c, .bool t.c.l.s, .slice t.c.l.a t.c.l.n t.c.l.c, .int .u16 t.m.x, .int .u16 t.m.y, .int .u16 t.m.z, .int .u16 t.m.t]).alloc _)
 have B2 := Lib.hid (show Bxs V (w.heap.size + 1) 50 [.bool false, .slice none 0 0, .bool false, .slice none 0 0, .int .u16 0, .int .u16 0, .int .u16 0, .int .u16 0] by
  have h := Bxs.new (w.alloc (.cells #[.bool t.c.t.s, .slice t.c.t.a t.c.t.n t.c.t.c, .bool t.c.l.s, .slice t.c.l.a t.c.l.n t.c.l.c, .int .u16 t.m.x, .int .u16 t.m.y, .int .u16 t.m.z, .int .u16 t.m.t] 50)) 50 [.bool false, .slice none 0 0, .bool false, .slice none 0 0, .int .u16 0, .int .u16 0, .int .u16 0, .int .u16 0]
  rw [World.size_alloc] at h
  rw [hV]; exact h)
 have KG := Lib.hid hbV
 obtain ⟨A1, hA1⟩ : ∃ A, A = w.heap.size := ⟨_, rfl⟩
 obtain ⟨A2, hA2⟩ : ∃ A, A = w.heap.size + 1 := ⟨_, rfl⟩
 have HA2 := Lib.hid (show w.heap.size ≤ A2 by omega)
 have HSZ := Lib.hid (show w.heap.size ≤ V.heap.size from hbV.size)
 have NF := Lib.hid (af.below hbV)
 clear af lf
 change Calls Tryz.prog 78 #[.agg #[.bool t.c.t.s, .slice t.c.t.a t.c.t.n t.c.t.c, .bool t.c.l.s, .slice t.c.l.a t.c.l.n t.c.l.c, .int .u16 t.m.x, .int .u16 t.m.y, .int .u16 t.m.z, .int .u16 t.m.t]] w _
 go_enter Tryz.func78, Tryz.ntmps78
 go_upto_region 1 with (fail)
 rw [← hV, ← hA2, ← hA1]
 rw [← hA1] at B1
 rw [← hA2] at B2
 clear hV hbV hA1 hA2
 obtain ⟨q101, hq101⟩ : ∃ z : Rat, z = ((1 : Int) : Rat) := ⟨_, rfl⟩
 have Hq101 := Lib.hid hq101
 have LQq101 := Lib.hid (show LQ q101 3 by rw [hq101]; exact LQ.int (by decide) (by decide))
 clear hq101
 obtain ⟨q102, hq102⟩ : ∃ z : Rat, z = q * q101 := ⟨_, rfl⟩
 have Hq102 := Lib.hid hq102
 have LQq102 := Lib.hid (show LQ q102 1800002 by rw [hq102]; exact LQ.mul (LQq.out.up (by decide : _ ≤ 900001)) (LQq101.out.up (by decide : _ ≤ 900001)) (by decide))
 clear hq102
 go_upto_region 1 with (fail)
 refine Go.FS.wp_region_fresh 5 [] (Go.FS.spOf [(2, Go.FS.Sp.made (fun x : FV => x.v) (fun x w' => DF w' V.heap.size x q101) FV.blk), (3, Go.FS.Sp.made (fun x : FV => x.v) (fun x w' => DF w' V.heap.size x q102) FV.blk)])
  (fun w' => Below V.heap.size V w') (by kernel_rfl) (by kernel_rfl) (by kernel_rfl)
  (Go.FS.spOf_cons (Go.FS.Sp.made_keeps _ (fun _ _ _ h _ hk => h.kept hk) (Go.FS.notTaken (by kernel_rfl))) (Go.FS.spOf_cons (Go.FS.Sp.made_keeps _ (fun _ _ _ h _ hk => h.kept hk) (Go.FS.notTaken (by kernel_rfl))) (Go.FS.spOf_nil))) (fun _ _ h hb => h.trans (hb.mono h.size)) ((Below.refl _ _).drew) ?_
 simp only [List.append_eq, List.cons_append, List.nil_append, List.take_succ_cons, List.take_zero, List.drop_succ_cons, List.drop_zero]
 refine Go.FS.wpF_reads rfl rfl rfl ?_ (fun w' hw' => ?_) ?_
 rotate_left
 ·have hb' := hw'.world
  skip
  clear hw'
  go_simp
  try rfl
 conv => arg 10; simp only [Act.put, Go.q0, Go.q1, Go.q2]
 refine Go.FS.wpF_reads rfl rfl rfl ?_ (fun w' hw' => ?_) ?_
 rotate_left
 ·have hb' := hw'.world
  have hs0 := (B1.out.below hb' B1.out.lt).cell (i := 0) rfl
  have hs1 := (B1.out.below hb' B1.out.lt).cell (i := 1) rfl
  have hs2 := (B1.out.below hb' B1.out.lt).cell (i := 2) rfl
  have hs3 := (B1.out.below hb' B1.out.lt).cell (i := 3) rfl
  have hs4 := (B1.out.below hb' B1.out.lt).cell (i := 4) rfl
  have hs5 := (B1.out.below hb' B1.out.lt).cell (i := 5) rfl
  have hs6 := (B1.out.below hb' B1.out.lt).cell (i := 6) rfl
  have hs7 := (B1.out.below hb' B1.out.lt).cell (i := 7) rfl
  have hsf := (B1.out.below hb' B1.out.lt).fz
  have hsl := (B1.out.below hb' B1.out.lt).lt
  clear hw'
  go_simp
  try rfl
 conv => arg 10; simp only [Act.put, Go.q0, Go.q1, Go.q2]
 refine Go.FS.wpF_spec rfl rfl rfl (fun w' hw' => ?_) ?_
 ·have hb' := hw'.world
  refine Go.FS.gives_of (Go.FS.PM (fun x : FV => x.v) (fun x w' => DF w' V.heap.size x q101) FV.blk w'.heap.size) ?_ (fun _ _ h => h.post (fun _ _ => FV.inj))
  go_simp
  have CT := qof 1 w' (by decide) (by decide)
  rw [show ((1 : Int) : Rat) = q101 from Hq101.out.symm] at CT
  refine CT.mono ?_
  rintro e w'' ⟨za, rfl, ho, hb⟩
  exact ⟨_, rfl, ⟨za, rfl, ho.mono hb'.size, ho.blks⟩, hb⟩
 rintro _ ⟨y2, rfl⟩
 conv => arg 10; simp only [Act.put, Go.q0, Go.q1, Go.q2]
 refine Go.FS.wpF_spec rfl rfl rfl (fun w' hw' => ?_) ?_
 ·have hb' := hw'.world
  refine Go.FS.gives_of (Go.FS.PM (fun x : FV => x.v) (fun x w' => DF w' V.heap.size x q102) FV.blk w'.heap.size) ?_ (fun _ _ h => h.post (fun _ _ => FV.inj))
  go_simp
  have f2 := Go.FS.made_of (val := (fun x : FV => x.v)) (Φ := fun x w' => DF w' V.heap.size x q101) (fun _ _ => FV.inj) (hw'.fact 2 (by kernel_rfl))
  have CT := qmul (NF.out.below hb') (LF.up HLNF.out (by decide : _ ≤ 900000)) (f2).k.any (((f2).k).len LQq101.out (by decide : _ ≤ 900000))
  rw [show q * q101 = q102 from Hq102.out.symm] at CT
  refine CT.mono ?_
  rintro e w'' ⟨za, rfl, ho, hb⟩
  exact ⟨_, rfl, ⟨za, rfl, ho.mono hb'.size, ho.blks⟩, hb⟩
 rintro _ ⟨y3, rfl⟩
 conv => arg 10; simp only [Act.put, Go.q0, Go.q1, Go.q2]
 refine Go.FS.wpF_reads rfl rfl rfl ?_ (fun w' hw' => ?_) ?_
 rotate_left
 ·have hb' := hw'.world
  skip
  clear hw'
  go_simp
  try rfl
 conv => arg 10; simp only [Act.put, Go.q0, Go.q1, Go.q2]
 refine Go.FS.wpF_nil (fun w103 hb hF => ?_)
 have N104 := Lib.hid (show DF w103 V.heap.size y3 q102 from (Go.FS.made_of (val := (fun x : FV => x.v)) (Φ := fun x w' => DF w' V.heap.size x q102) (fun _ _ => FV.inj) (hF.all 3)))
 clear hF
 have NF := Lib.hid (NF.out.below hb)
 have B1 := Lib.hid (B1.out.below hb B1.out.lt)
 have B2 := Lib.hid (B2.out.below hb B2.out.lt)
 have KG := Lib.hid (KG.out.trans (hb.mono KG.out.size))
 clear hb
 have HD := Lib.hid (show DF (put8 w103 A2 (.bool y3.t.s) (.slice y3.t.a y3.t.n y3.t.c) (.bool y3.l.s) (.slice y3.l.a y3.l.n y3.l.c) (.int .u16 0) (.int .u16 0) (.int .u16 0) (.int .u16 0)) w.heap.size y3 q from by rw [show q = q102 from by rw [Hq102.out, Hq101.out]; grind]; exact put8_df (N104.out.mono HSZ.out) B2.out (by decide) ..)
 have HB := Lib.hid (show Below w.heap.size w (put8 w103 A2 (.bool y3.t.s) (.slice y3.t.a y3.t.n y3.t.c) (.bool y3.l.s) (.slice y3.l.a y3.l.n y3.l.c) (.int .u16 0) (.int .u16 0) (.int .u16 0) (.int .u16 0)) from put8_below KG.out HA2.out ..)
 have cB20 := B2.out.cell (i := 0) rfl
 have cB21 := B2.out.cell (i := 1) rfl
 have cB22 := B2.out.cell (i := 2) rfl
 have cB23 := B2.out.cell (i := 3) rfl
 have cB24 := B2.out.cell (i := 4) rfl
 have cB25 := B2.out.cell (i := 5) rfl
 have cB26 := B2.out.cell (i := 6) rfl
 have cB27 := B2.out.cell (i := 7) rfl
 have cB2f := B2.out.fz
 have cB2l := B2.out.lt
 go_wp2_with fail
 refine bodyPost_ret (results_cell rfl _ _ _ _ _ _ _ rfl (put8_bxs B2.out ..) Tryz.underlying50 rfl (by kernel_rfl)) rfl ⟨y3, rfl, HD.out, HB.out⟩
set_option maxRecDepth 100000 in
set_option maxHeartbeats 4000000 in
theorem scale1_any (t : TV) (q : Rat) (w : World) (af : AF w t.c q) (lf : LF t.c 900000) (bc : Nat) (c : FV) (r : Rat) (hc : Bxs w bc 28 [.bool c.t.s, .slice c.t.a c.t.n c.t.c, .bool c.l.s, .slice c.l.a c.l.n c.l.c]) (ac : AF w c r) (lc : LF c 900000) : Calls Tryz.prog 48 #[TV.v t, .pointer (some ⟨bc, 0, none⟩)] w fun en w' => ∃ y : FV, en = .returned (TV.v ⟨y, t.m⟩) ∧ DF w' w.heap.size y (q * r) ∧ Below w.heap.size w w' := by
 have LQq := Lib.hid (af.len lf)
 have HLNF := Lib.hid lf
 obtain ⟨V, hV⟩ : ∃ V, V = (w.alloc (.cells #[.bool t.c.t.s, .slice t.c.t.a t.c.t.n t.c.t.c, .bool t.c.l.s, .slice t.c.l.a t.c.l.n t.c.l.c, .int .u16 t.m.x, .int .u16 t.m.y, .int .u16 t.m.z, .int .u16 t.m.t] 50)).alloc (.cells #[.bool false, .slice none 0 0, .bool false, .slice none 0 0, .int .u16 0, .int .u16 0, .int .u16 0, .int .u16 0] 50) := ⟨_, rfl⟩
 have hbV : Below w.heap.size w V := by rw [hV]; exact ((Below.refl _ _).alloc (Nat.le_refl _) _).alloc (by go_size) _
 have B1 := Lib.hid (show Bxs V w.heap.size 50 [.bool t.c.t.s, .slice t.c.t.a t.c.t.n t.c.t.c, .bool t.c.l.s, .slice t.c.l.a t.c.l.n t.c.l.c, .int .u16 t.m.x, .int .u16 t.m.y, .int .u16 t.m.z, .int .u16 t.m.t] by rw [hV]; exact (Bxs.new w 50 [.bool t.c.t.s, .slice t.c.t.a t.c.t.n t.c.t.c, .bool t.c.l.s, .slice t.c.l.a t.c.l.n t.c.l.c, .int .u16 t.m.x, .int .u16 t.m.y, .int .u16 t.m.z, .int .u16 t.m.t]).alloc _)
 have B2 := Lib.hid (show Bxs V (w.heap.size + 1) 50 [.bool false, .slice none 0 0, .bool false, .slice none 0 0, .int .u16 0, .int .u16 0, .int .u16 0, .int .u16 0] by
  have h := Bxs.new (w.alloc (.cells #[.bool t.c.t.s, .slice t.c.t.a t.c.t.n t.c.t.c, .bool t.c.l.s, .slice t.c.l.a t.c.l.n t.c.l.c, .int .u16 t.m.x, .int .u16 t.m.y, .int .u16 t.m.z, .int .u16 t.m.t] 50)) 50 [.bool false, .slice none 0 0, .bool false, .slice none 0 0, .int .u16 0, .int .u16 0, .int .u16 0, .int .u16 0]
  rw [World.size_alloc] at h
  rw [hV]; exact h)
 have KG := Lib.hid hbV
 obtain ⟨A1, hA1⟩ : ∃ A, A = w.heap.size := ⟨_, rfl⟩
 obtain ⟨A2, hA2⟩ : ∃ A, A = w.heap.size + 1 := ⟨_, rfl⟩
 have HA2 := Lib.hid (show w.heap.size ≤ A2 by omega)
 have HSZ := Lib.hid (show w.heap.size ≤ V.heap.size from hbV.size)
 have NF := Lib.hid (af.below hbV)
 have LQr := Lib.hid (ac.len lc)
 have HLNC := Lib.hid lc
 have NC := Lib.hid (ac.below hbV)
 have BC := Lib.hid (hc.below hbV hc.lt)
 clear hc ac lc
 clear af lf
 change Calls Tryz.prog 48 #[.agg #[.bool t.c.t.s, .slice t.c.t.a t.c.t.n t.c.t.c, .bool t.c.l.s, .slice t.c.l.a t.c.l.n t.c.l.c, .int .u16 t.m.x, .int .u16 t.m.y, .int .u16 t.m.z, .int .u16 t.m.t], .pointer (some ⟨bc, 0, none⟩)] w _
 go_enter Tryz.func48, Tryz.ntmps48
 go_upto_region 1 with (fail)
 rw [← hV, ← hA2, ← hA1]
 rw [← hA1] at B1
 rw [← hA2] at B2
 clear hV hbV hA1 hA2
 obtain ⟨q101, hq101⟩ : ∃ z : Rat, z = q * r := ⟨_, rfl⟩
 have Hq101 := Lib.hid hq101
 have LQq101 := Lib.hid (show LQ q101 1800002 by rw [hq101]; exact LQ.mul (LQq.out.up (by decide : _ ≤ 900001)) (LQr.out.up (by decide : _ ≤ 900001)) (by decide))
 clear hq101
 go_upto_region 1 with (fail)
 refine Go.FS.wp_region_fresh 7 [] (Go.FS.spOf [(3, Go.FS.Sp.made (fun x : FV => x.v) (fun x w' => DF w' V.heap.size x q101) FV.blk)])
  (fun w' => Below V.heap.size V w') (by kernel_rfl) (by kernel_rfl) (by kernel_rfl)
  (Go.FS.spOf_cons (Go.FS.Sp.made_keeps _ (fun _ _ _ h _ hk => h.kept hk) (Go.FS.notTaken (by kernel_rfl))) (Go.FS.spOf_nil)) (fun _ _ h hb => h.trans (hb.mono h.size)) ((Below.refl _ _).drew) ?_
 simp only [List.append_eq, List.cons_append, List.nil_append, List.take_succ_cons, List.take_zero, List.drop_succ_cons, List.drop_zero]
 refine Go.FS.wpF_reads rfl rfl rfl ?_ (fun w' hw' => ?_) ?_
 rotate_left
 ·have hb' := hw'.world
  skip
  clear hw'
  go_simp
  try rfl
 conv => arg 10; simp only [Act.put, Go.q0, Go.q1, Go.q2]
 refine Go.FS.wpF_reads rfl rfl rfl ?_ (fun w' hw' => ?_) ?_
 rotate_left
 ·have hb' := hw'.world
  have hs0 := (B1.out.below hb' B1.out.lt).cell (i := 0) rfl
  have hs1 := (B1.out.below hb' B1.out.lt).cell (i := 1) rfl
  have hs2 := (B1.out.below hb' B1.out.lt).cell (i := 2) rfl
  have hs3 := (B1.out.below hb' B1.out.lt).cell (i := 3) rfl
  have hs4 := (B1.out.below hb' B1.out.lt).cell (i := 4) rfl
  have hs5 := (B1.out.below hb' B1.out.lt).cell (i := 5) rfl
  have hs6 := (B1.out.below hb' B1.out.lt).cell (i := 6) rfl
  have hs7 := (B1.out.below hb' B1.out.lt).cell (i := 7) rfl
  have hsf := (B1.out.below hb' B1.out.lt).fz
  have hsl := (B1.out.below hb' B1.out.lt).lt
  clear hw'
  go_simp
  try rfl
 conv => arg 10; simp only [Act.put, Go.q0, Go.q1, Go.q2]
 refine Go.FS.wpF_reads rfl rfl rfl ?_ (fun w' hw' => ?_) ?_
 rotate_left
 ·have hb' := hw'.world
  have hs0 := (BC.out.below hb' BC.out.lt).cell (i := 0) rfl
  have hs1 := (BC.out.below hb' BC.out.lt).cell (i := 1) rfl
  have hs2 := (BC.out.below hb' BC.out.lt).cell (i := 2) rfl
  have hs3 := (BC.out.below hb' BC.out.lt).cell (i := 3) rfl
  have hsf := (BC.out.below hb' BC.out.lt).fz
  have hsl := (BC.out.below hb' BC.out.lt).lt
  clear hw'
  go_simp
  try rfl
 conv => arg 10; simp only [Act.put, Go.q0, Go.q1, Go.q2]
 refine Go.FS.wpF_spec rfl rfl rfl (fun w' hw' => ?_) ?_
 ·have hb' := hw'.world
  refine Go.FS.gives_of (Go.FS.PM (fun x : FV => x.v) (fun x w' => DF w' V.heap.size x q101) FV.blk w'.heap.size) ?_ (fun _ _ h => h.post (fun _ _ => FV.inj))
  go_simp
  have CT := qmul (NF.out.below hb') (LF.up HLNF.out (by decide : _ ≤ 900000)) (NC.out.below hb') (LF.up HLNC.out (by decide : _ ≤ 900000))
  rw [show q * r = q101 from Hq101.out.symm] at CT
  refine CT.mono ?_
  rintro e w'' ⟨za, rfl, ho, hb⟩
  exact ⟨_, rfl, ⟨za, rfl, ho.mono hb'.size, ho.blks⟩, hb⟩
 rintro _ ⟨y3, rfl⟩
 conv => arg 10; simp only [Act.put, Go.q0, Go.q1, Go.q2]
 refine Go.FS.wpF_reads rfl rfl rfl ?_ (fun w' hw' => ?_) ?_
 rotate_left
 ·have hb' := hw'.world
  skip
  clear hw'
  go_simp
  try rfl
 conv => arg 10; simp only [Act.put, Go.q0, Go.q1, Go.q2]
 refine Go.FS.wpF_reads rfl rfl rfl ?_ (fun w' hw' => ?_) ?_
 rotate_left
 ·have hb' := hw'.world
  have hs0 := (B1.out.below hb' B1.out.lt).cell (i := 0) rfl
  have hs1 := (B1.out.below hb' B1.out.lt).cell (i := 1) rfl
  have hs2 := (B1.out.below hb' B1.out.lt).cell (i := 2) rfl
  have hs3 := (B1.out.below hb' B1.out.lt).cell (i := 3) rfl
  have hs4 := (B1.out.below hb' B1.out.lt).cell (i := 4) rfl
  have hs5 := (B1.out.below hb' B1.out.lt).cell (i := 5) rfl
  have hs6 := (B1.out.below hb' B1.out.lt).cell (i := 6) rfl
  have hs7 := (B1.out.below hb' B1.out.lt).cell (i := 7) rfl
  have hsf := (B1.out.below hb' B1.out.lt).fz
  have hsl := (B1.out.below hb' B1.out.lt).lt
  clear hw'
  go_simp
  try rfl
 conv => arg 10; simp only [Act.put, Go.q0, Go.q1, Go.q2]
 refine Go.FS.wpF_reads rfl rfl rfl ?_ (fun w' hw' => ?_) ?_
 rotate_left
 ·have hb' := hw'.world
  skip
  clear hw'
  go_simp
  try rfl
 conv => arg 10; simp only [Act.put, Go.q0, Go.q1, Go.q2]
 refine Go.FS.wpF_nil (fun w102 hb hF => ?_)
 have N103 := Lib.hid (show DF w102 V.heap.size y3 q101 from (Go.FS.made_of (val := (fun x : FV => x.v)) (Φ := fun x w' => DF w' V.heap.size x q101) (fun _ _ => FV.inj) (hF.all 3)))
 clear hF
 have NF := Lib.hid (NF.out.below hb)
 have NC := Lib.hid (NC.out.below hb)
 have B1 := Lib.hid (B1.out.below hb B1.out.lt)
 have B2 := Lib.hid (B2.out.below hb B2.out.lt)
 have BC := Lib.hid (BC.out.below hb BC.out.lt)
 have KG := Lib.hid (KG.out.trans (hb.mono KG.out.size))
 clear hb
 have HD := Lib.hid (show DF (put8 w102 A2 (.bool y3.t.s) (.slice y3.t.a y3.t.n y3.t.c) (.bool y3.l.s) (.slice y3.l.a y3.l.n y3.l.c) (.int .u16 t.m.x) (.int .u16 t.m.y) (.int .u16 t.m.z) (.int .u16 t.m.t)) w.heap.size y3 (q * r) from by rw [show (q * r) = q101 from Hq101.out.symm]; exact put8_df (N103.out.mono HSZ.out) B2.out (by decide) ..)
 have HB := Lib.hid (show Below w.heap.size w (put8 w102 A2 (.bool y3.t.s) (.slice y3.t.a y3.t.n y3.t.c) (.bool y3.l.s) (.slice y3.l.a y3.l.n y3.l.c) (.int .u16 t.m.x) (.int .u16 t.m.y) (.int .u16 t.m.z) (.int .u16 t.m.t)) from put8_below KG.out HA2.out ..)
 have cB20 := B2.out.cell (i := 0) rfl
 have cB21 := B2.out.cell (i := 1) rfl
 have cB22 := B2.out.cell (i := 2) rfl
 have cB23 := B2.out.cell (i := 3) rfl
 have cB24 := B2.out.cell (i := 4) rfl
 have cB25 := B2.out.cell (i := 5) rfl
 have cB26 := B2.out.cell (i := 6) rfl
 have cB27 := B2.out.cell (i := 7) rfl
 have cB2f := B2.out.fz
 have cB2l := B2.out.lt
 go_wp2_with fail
 refine bodyPost_ret (results_cell rfl _ _ _ _ _ _ _ rfl (put8_bxs B2.out ..) Tryz.underlying50 rfl (by kernel_rfl)) rfl ⟨y3, rfl, HD.out, HB.out⟩
set_option maxRecDepth 100000 in
set_option maxHeartbeats 4000000 in
theorem of_num (c : FV) (q : Rat) (w : World) (ac : AF w c q) (lc : LF c 900000) (hq : LQ q 400000) : Calls Tryz.prog 32 #[c.v] w fun e w' => ∃ y : PV, e = .returned y.v ∧ DP w' w.heap.size y (nf [(Mo.one, q)]) ∧ Below w.heap.size w w' := by
 have B1 := Lib.hid (Bxs.new w 28 [.bool c.t.s, .slice c.t.a c.t.n c.t.c, .bool c.l.s, .slice c.l.a c.l.n c.l.c])
 obtain ⟨V, hV⟩ : ∃ V, V = (w.alloc (.cells #[.bool c.t.s, .slice c.t.a c.t.n c.t.c, .bool c.l.s, .slice c.l.a c.l.n c.l.c] 28)).alloc (.cells #[.bool c.t.s, .slice c.t.a c.t.n c.t.c, .bool c.l.s, .slice c.l.a c.l.n c.l.c, .int .u16 0, .int .u16 0, .int .u16 0, .int .u16 0] 50) := ⟨_, rfl⟩
 have hbV : Below w.heap.size w V := by rw [hV]; exact ((Below.refl _ _).alloc (Nat.le_refl _) _).alloc (by go_size) _
 have B2 := Lib.hid (show Bxs V (w.heap.size + 1) 50 [.bool c.t.s, .slice c.t.a c.t.n c.t.c, .bool c.l.s, .slice c.l.a c.l.n c.l.c, .int .u16 0, .int .u16 0, .int .u16 0, .int .u16 0] by
  have h := Bxs.new (w.alloc (.cells #[.bool c.t.s, .slice c.t.a c.t.n c.t.c, .bool c.l.s, .slice c.l.a c.l.n c.l.c] 28)) 50 [.bool c.t.s, .slice c.t.a c.t.n c.t.c, .bool c.l.s, .slice c.l.a c.l.n c.l.c, .int .u16 0, .int .u16 0, .int .u16 0, .int .u16 0]
  rw [World.size_alloc] at h
  rw [hV]; exact h)
 have KG := Lib.hid hbV
 have hrow : RowA V ⟨some ⟨w.heap.size + 1, 0, none⟩, 1, 1⟩ [((⟨c, Mo.one⟩ : TV), q)] := by
  refine ⟨⟨fun _ => ⟨w.heap.size + 1, 0, rfl, fun i t hi j v hj => ?_⟩⟩, rfl, fun e he => ?_, fun e he => ?_⟩
  ·obtain ⟨rfl, rfl⟩ : i = 0 ∧ t = ⟨c, Mo.one⟩ := by
    cases i with
    | zero => exact ⟨rfl, by simpa using hi.symm⟩
    | succ i => simp at hi
   rw [show 0 + 0 * 8 + j = j by omega]
   exact B2.out.cell hj
  ·rw [List.mem_singleton.1 he]; exact ac.below hbV
  ·rw [List.mem_singleton.1 he]; exact lc
 have WT := Lib.hid (with_any 78 #[] ⟨some ⟨w.heap.size + 1, 0, none⟩, 1, 1⟩ [((⟨c, Mo.one⟩ : TV), q)] (fun e => (Mo.one, e.2)) 400000 V hrow (by simp) (by simp) (fun _ _ => by kernel_rfl)
  (fun e he w1 hb ha hl => by simpa using of1_any e.1 e.2 w1 ha hl) (fun e he => one_small) (fun e he => by rw [List.mem_singleton.1 he]; exact hq))
 have HV := Lib.hid hV
 clear hV hbV hrow ac lc hq
 go_enter Tryz.func32, Tryz.ntmps32
 have c10 := B1.out.cell (i := 0) rfl
 have c11 := B1.out.cell (i := 1) rfl
 have c12 := B1.out.cell (i := 2) rfl
 have c13 := B1.out.cell (i := 3) rfl
 go_wp2_with fail
 rw [show (w.alloc (.cells #[.bool c.t.s, .slice c.t.a c.t.n c.t.c, .bool c.l.s, .slice c.l.a c.l.n c.l.c] 28)).alloc (.cells #[.bool c.t.s, .slice c.t.a c.t.n c.t.c, .bool c.l.s, .slice c.l.a c.l.n c.l.c, .int .u16 0, .int .u16 0, .int .u16 0, .int .u16 0] 50) = V from HV.out.symm]
 with_reducible refine WT.out.mono ?_
 rintro e w1 ⟨y, rfl, hy, hb⟩
 have HY := Lib.hid hy
 have HB := Lib.hid hb
 clear hy hb WT
 go_wp2_with fail
 go_ret
 exact ⟨y, rfl, HY.out.mono KG.out.size, KG.out.trans (HB.out.mono KG.out.size)⟩
set_option maxRecDepth 100000 in
set_option maxHeartbeats 4000000 in
theorem scale_any (x : PV) (P : List Tm) (c : FV) (r : Rat) (k n k2 : Nat) (w : World) (hx : AP w x P) (hb : PB P n k 65535) (hxn : x.n ≤ 1000000) (ac : AF w c r) (lc : LF c 900000) (hr : LQ r k2) (hk : k ≤ 900000) (hkk : n * (k + k2 + 1) ≤ 900000) :
  Calls Tryz.prog 14 #[x.v, c.v] w fun e w' => ∃ y : PV, e = .returned y.v ∧ DP w' w.heap.size y (scaleP r P) ∧ Below w.heap.size w w' := by
 have B1 := Lib.hid (Bxs.new w 28 [.bool c.t.s, .slice c.t.a c.t.n c.t.c, .bool c.l.s, .slice c.l.a c.l.n c.l.c])
 obtain ⟨V, hV⟩ : ∃ V, V = w.alloc (.cells #[.bool c.t.s, .slice c.t.a c.t.n c.t.c, .bool c.l.s, .slice c.l.a c.l.n c.l.c] 28) := ⟨_, rfl⟩
 have hbV : Below w.heap.size w V := by rw [hV]; exact (Below.refl _ _).alloc (Nat.le_refl _) _
 have B1 := Lib.hid (show Bxs V w.heap.size 28 [.bool c.t.s, .slice c.t.a c.t.n c.t.c, .bool c.l.s, .slice c.l.a c.l.n c.l.c] by rw [hV]; exact B1.out)
 have OF := Lib.hid (of_any (hx.below hbV) (fun t ht => (hb.lq t ht).up hk) (by omega))
 have HB := Lib.hid hb; have AC := Lib.hid (ac.below hbV); have LC := Lib.hid lc; have HR := Lib.hid hr; have HK := Lib.hid hk; have HKK := Lib.hid hkk
 have KG := Lib.hid hbV
 have HV := Lib.hid hV
 obtain ⟨xa, xn, xc⟩ := x
 have HXN := Lib.hid (show xn ≤ 1000000 from hxn)
 clear hV hbV hx hb ac lc hr hk hkk hxn
 change Calls Tryz.prog 14 #[.slice xa xn xc, .agg #[.bool c.t.s, .slice c.t.a c.t.n c.t.c, .bool c.l.s, .slice c.l.a c.l.n c.l.c]] w _
 go_enter Tryz.func14, Tryz.ntmps14
 go_wp2_with fail
 rw [show w.alloc (.cells #[.bool c.t.s, .slice c.t.a c.t.n c.t.c, .bool c.l.s, .slice c.l.a c.l.n c.l.c] 28) = V from HV.out.symm]
 with_reducible refine OF.out.mono ?_
 rintro e w1 ⟨z, rfl, hz, hzn, hb1⟩
 obtain ⟨L, hR, hK, hLP⟩ := hz.rowA (fun t ht => (HB.out.lq t ht).up HK.out)
 have hl : L.length = P.length := by rw [← hLP, List.length_map]
 have hP := HB.out.len
 have WT := Lib.hid (with_any 48 #[.pointer (some ⟨w.heap.size, 0, none⟩)] z L (fun e => (e.1.m, e.2 * r)) (k + k2) w1 hR (by
   have := hR.len
   have h5 : z.n ≤ xn := hzn
   have := HXN.out
   omega) (Nat.le_trans (Nat.mul_le_mul_right _ (by omega)) HKK.out) (fun _ _ => by kernel_rfl)
  (fun e he w2 hb2 ha hl2 => scale1_any e.1 e.2 w2 ha hl2 w.heap.size c r ((B1.out.below hb1 B1.out.lt).below hb2 (Nat.lt_of_lt_of_le B1.out.lt hb1.size)) ((AC.out.below hb1).below hb2) LC.out)
  (fun e he => hz.small (tm e) (by rw [← hLP]; exact List.mem_map_of_mem he)) (fun e he => ((HB.out.lq (tm e) (by rw [← hLP]; exact List.mem_map_of_mem he)).ls.mul HR.out.ls).lq (Nat.le_refl _) (Nat.le_refl _)))
 have HL := Lib.hid hLP
 have KG := Lib.hid (KG.out.trans (hb1.mono KG.out.size))
 clear hz hzn hb1 hR hK hLP hl hP OF
 go_wp2_with fail
 with_reducible refine WT.out.mono ?_
 rintro e w2 ⟨y, rfl, hy, hb2⟩
 have HY := Lib.hid hy
 have HB2 := Lib.hid hb2
 clear hy hb2 WT
 go_wp2_with fail
 go_ret
 refine ⟨y, rfl, ?_, KG.out.trans (HB2.out.mono KG.out.size)⟩
 have e1 : scaleP r P = nf (L.map fun e => (e.1.m, e.2 * r)) := by
  unfold scaleP scaleL
  rw [← HL.out, List.map_map]
  rfl
 rw [e1]
 exact HY.out.mono KG.out.size
theorem TV.one (t : TV) : ∀ u ∈ t.cells, u.oneCell' = true := by
 intro u hu
 simp only [TV.cells, List.mem_cons, List.mem_nil_iff, or_false] at hu
 rcases hu with rfl | rfl | rfl | rfl | rfl | rfl | rfl | rfl <;> rfl
theorem flat_inv (ts : List TV) (j : Nat) (v : Value) (h : (ts.flatMap TV.cells)[j]? = some v) : ∃ i k t, j = i * 8 + k ∧ ts[i]? = some t ∧ t.cells[k]? = some v := by
 have hj := (List.getElem?_eq_some_iff.1 h).1
 rw [flat_len] at hj
 have hi : j / 8 < ts.length := by omega
 refine ⟨j / 8, j % 8, ts[j / 8], by omega, List.getElem?_eq_getElem hi, ?_⟩
 rw [← flat_get ts (j / 8) (j % 8) _ (List.getElem?_eq_getElem hi) (Nat.mod_lt _ (by omega)), show j / 8 * 8 + j % 8 = j by omega]
 exact h
theorem app_run (w : World) (lo : Nat) (v : Value) (ts us : List TV) (a : Option Addr) (n c ty : Nat) (h : OT w lo v ts) (hr : RT w a us) (hl : us.length = n) (hs : ts.length + us.length ≤ 4000000) (hlo : lo ≤ w.heap.size) :
  ∃ v' w', (Builtin.append_ #[23, 23] ty #[v, .slice a n c]).run Tryz.prog w = .ok v' w' ∧ OT w' lo v' (ts ++ us) ∧ w.grownBy w' v.ownBlock := by
 obtain ⟨i0, hi, hz0, hz1, hz2⟩ := info_parts info8
 cases a with
 | none =>
  have hn : us = [] := by
   by_cases h0 : us = []
   ·exact h0
   ·obtain ⟨b, off, h1, -⟩ := hr.ex h0
    cases h1
  subst hn
  obtain rfl : 0 = n := hl
  refine ⟨v, w, ?_, by rw [List.append_nil]; exact h, rfl, rfl, rfl, Nat.le_refl _, fun _ _ _ => rfl⟩
  rcases h.2 with ⟨rfl, h0⟩ | ⟨g, cap, cur, rfl, _, _, hnc, _⟩
  ·simp [Builtin.append_, run_underlying (P := Tryz.prog) Tryz.underlying23, sizeOf, typeInfo, hi, Builtin.lenOf, Builtin.firstCells]
  ·simp [Builtin.append_, run_underlying (P := Tryz.prog) Tryz.underlying23, sizeOf, typeInfo, hi, Builtin.lenOf, Builtin.firstCells, hnc, storeCells]
 | some ad =>
  have hcell : ∀ j u, (us.flatMap TV.cells)[j]? = some u → w.cell? (ad.add j) = some u := fun j u hj => by
   obtain ⟨i, k, t, rfl, h2, h3⟩ := flat_inv us j u hj
   obtain ⟨b, off, h4, h5⟩ := hr.ex (fun h0 => by rw [h0] at h2; cases h2)
   obtain rfl := Option.some.inj h4
   have h6 := h5 i t h2 k u h3
   rw [Nat.add_assoc] at h6
   rw [show (⟨b, off, none⟩ : Addr).add (i * 8 + k) = ⟨b, off + (i * 8 + k), none⟩ by simp [Addr.add]]
   exact h6
  obtain ⟨v', w', h1, h2, h3, -⟩ := run_append_own (P := Tryz.prog) w lo 23 ty 50 i0 _ 8 72 Tryz.underlying23 hi hz0 hz1 hz2 rfl (by decide) v ts.length (ts.flatMap TV.cells) h ad n c (us.flatMap TV.cells)
   (by rw [flat_len, hl]) hcell (fun u hu => by obtain ⟨t, _, ht⟩ := List.mem_flatMap.1 hu; exact TV.one t u ht) (by rw [← hl]; unfold maxLen; omega) (by rw [← hl]; omega) hlo
  refine ⟨v', w', h1, ?_, h3⟩
  show w'.ownsRow _ _ _ _ _ _
  rw [List.flatMap_append, List.length_append, hl]
  exact h2
theorem growS_any (n : Nat) (w : World) (hn : n ≤ 4000000) : Calls Tryz.prog 108 #[.slice none 0 0, .int .i64 n] w fun e w' => ∃ v, e = .returned v ∧ OT w' w.heap.size v [] ∧ Below w.heap.size w w' := by
 obtain ⟨i0, hi, hz0, hz1, hz2⟩ := info_parts info8
 by_cases h0 : n = 0
 ·subst h0
  refine (Any8.slices_Grow_room (P := Tryz.prog) (ρ := Tryz.growT_ren) Tryz.growT none 0 0 0 w (Nat.le_refl _) (by decide) (by decide) (by decide)).mono ?_
  rintro e w' ⟨rfl, rfl⟩
  exact ⟨_, rfl, World.ownsRow_nil _ _ _ _, Below.refl _ _⟩
 ·refine (Any8.slices_Grow_grow (P := Tryz.prog) (ρ := Tryz.growT_ren) Tryz.growT i0 _ hi hz0 (by rw [hz1]; decide) none 0 0 n [] w (Nat.le_refl _) (by omega) (by rw [hz2]; omega) (by omega) (by rw [Nat.zero_mul]; rfl) (fun _ => rfl) (fun a h => by cases h)).mono ?_
  rintro e w' ⟨rfl, rfl⟩
  obtain ⟨G, hG⟩ : ∃ G, G = grownCap w (0 + n) 0 50 := ⟨_, rfl⟩
  have h1 : 0 + n ≤ G := by rw [hG]; exact grownCap_ge _ _ _ _
  have h2 : G ≤ maxLen := by rw [hG]; exact grownCap_le_maxLen _ _ _ _ (by unfold maxLen; omega)
  refine ⟨_, rfl, ?_, ((Below.refl _ _).drew).alloc (Nat.le_refl _) _⟩
  change World.ownsRow (w.drew.alloc (.cells _ 50)) w.drew.heap.size 50 8 (.slice (some ⟨w.drew.heap.size, 0, none⟩) 0 (grownCap w (0 + n) 0 50)) 0 []
  rw [← hG]
  refine World.ownsRow_made w.drew _ G (Nat.le_refl _) h2 ?_
  change (_ ++ Builtin.zeroCells _ (grownCap w (0 + n) 0 50 - (0 + n))).size = _
  rw [← hG]
  simp only [Array.size_append, size_zeroCells, Value.cells]
  simp
  omega
set_option maxRecDepth 100000 in
set_option maxHeartbeats 16000000 in
theorem conc_any (g : Nat) (Xs : List (PV × List TV)) (w : World) (hc : ∀ i e, Xs[i]? = some e → w.cell? ⟨g, i, none⟩ = some e.1.v) (hr : ∀ e ∈ Xs, RT w e.1.a e.2 ∧ e.2.length = e.1.n)
  (hs : (Xs.flatMap Prod.snd).length ≤ 4000000) (hn : Xs.length ≤ 1000) :
  Calls Tryz.prog 77 #[.slice (some ⟨g, 0, none⟩) Xs.length Xs.length] w fun e w' => ∃ v, e = .returned v ∧ OT w' w.heap.size v (Xs.flatMap Prod.snd) ∧ Below w.heap.size w w' := by
 obtain ⟨m, hm⟩ : ∃ m, m = Xs.length := ⟨_, rfl⟩
 rw [← hm] at hn ⊢
 have HC := Lib.hid hc; have HR := Lib.hid hr; have HS := Lib.hid hs; have HN := Lib.hid hn; have HM := Lib.hid hm
 have HT := Lib.hid (show ∀ j, ((Xs.take j).flatMap Prod.snd).length ≤ 4000000 from fun j => by
  refine Nat.le_trans ?_ hs
  have h := congrArg (fun l => (l.flatMap Prod.snd).length) (List.take_append_drop j Xs)
  simp only [List.flatMap_append, List.length_append] at h
  omega)
 have HW := Lib.hid (show ∀ (i : Nat) e, Xs[i]? = some e → (Xs.take (i + 1)).flatMap Prod.snd = (Xs.take i).flatMap Prod.snd ++ e.2 from fun i e he => by
  rw [List.take_add_one, he]; simp)
 clear hc hr hs hn hm
 go_enter Tryz.func77, Tryz.ntmps77
 go_wp2_with fail
 go_loopw [3, 11] (fun s i wr => ∃ j : Nat, j ≤ m ∧ i = .int .i64 j ∧ s = .int .i64 (((Xs.take j).flatMap Prod.snd).length : Nat) ∧ Below w.heap.size w wr) (fun _ i _ => m - (intOf i).toNat)
 case atStart =>
  exact ⟨0, Nat.zero_le _, rfl, rfl, Below.refl _ _⟩
 case round =>
  obtain ⟨j, hj, rfl, rfl, hb0⟩ := hrel
  have HJ := Lib.hid hj; have KG := Lib.hid hb0
  clear hj hb0
  obtain ⟨z, hz⟩ : ∃ z, z = ((Xs.take j).flatMap Prod.snd).length := ⟨_, rfl⟩
  rw [← hz]
  have HZ := Lib.hid hz
  have HZ4 := Lib.hid (show z ≤ 4000000 by rw [hz]; exact HT.out j)
  clear hz
  by_cases hjn : j < m
  ·have HJN := Lib.hid hjn
   obtain ⟨⟨⟨xa, xn, xc⟩, ts⟩, he⟩ : ∃ e, Xs[j]? = some e := ⟨_, List.getElem?_eq_getElem (by rw [← HM.out]; exact hjn)⟩
   have HE := Lib.hid he
   have c0 := (KG.out.cell (p := ⟨g, j, none⟩) (block_lt_of_cell (HC.out j _ he))).trans (HC.out j _ he)
   have hxn : ts.length = xn := (HR.out _ (List.mem_of_getElem? he)).2
   have h4 := HT.out (j + 1)
   rw [HW.out j _ he, List.length_append] at h4
   have HX4 := Lib.hid (show z + xn ≤ 4000000 by rw [HZ.out]; change _ + ts.length ≤ _ at h4; omega)
   have ek : IntKind.i64.wrap ((j : Int) + 1) = (j : Int) + 1 := IntWalk.i64_in _ (by have := HJN.out; have := HN.out; omega)
   have ez : IntKind.i64.wrap ((z : Int) + (xn : Int)) = (z : Int) + (xn : Int) := IntWalk.i64_in _ (by have := HX4.out; omega)
   have e0 : ¬ ((z : Int) + (xn : Int) < 0) := by omega
   have HXN := Lib.hid hxn
   clear he hxn h4
   go_wp2_with fail
   go_roundw
   case rel =>
    refine ⟨j + 1, by have := HJN.out; omega, rfl, ?_, KG.out⟩
    rw [HW.out j _ HE.out, List.length_append, ← HZ.out]
    show Value.int IntKind.i64 ((z : Int) + (xn : Int)) = .int .i64 ((z + ts.length : Nat) : Int)
    rw [HXN.out]
    rfl
   case measure => simp [intOf]; have := HJN.out; omega
  ·have HJE := Lib.hid (show j = m by have := HJ.out; omega)
   have hge : ¬ ((j : Int) < (m : Int)) := by omega
   have GR := Lib.hid (growS_any z wr HZ4.out)
   clear hjn
   go_wp2_with fail
   with_reducible refine GR.out.mono ?_
   rintro e w1 ⟨v, rfl, ho, hb⟩
   have HO := Lib.hid (OT.mono ho KG.out.size)
   have KG := Lib.hid (KG.out.trans (hb.mono KG.out.size))
   clear ho hb GR hge
   go_wp2_with fail
   go_loopw [6, 27] (fun s i wr => ∃ j : Nat, j ≤ m ∧ i = .int .i64 j ∧ OT wr w.heap.size s ((Xs.take j).flatMap Prod.snd) ∧ Below w.heap.size w wr) (fun _ i _ => m - (intOf i).toNat)
   case atStart =>
    exact ⟨0, Nat.zero_le _, rfl, HO.out, KG.out⟩
   case round =>
    obtain ⟨i, hi, rfl, ho, hb0⟩ := hrel
    have HI := Lib.hid hi; have HO := Lib.hid ho; have KG := Lib.hid hb0
    clear hi ho hb0
    by_cases hin : i < m
    ·have HIN := Lib.hid hin
     obtain ⟨⟨⟨xa, xn, xc⟩, ts⟩, he⟩ : ∃ e, Xs[i]? = some e := ⟨_, List.getElem?_eq_getElem (by rw [← HM.out]; exact hin)⟩
     have HE := Lib.hid he
     have c0 := (KG.out.cell (p := ⟨g, i, none⟩) (block_lt_of_cell (HC.out i _ he))).trans (HC.out i _ he)
     have hxn := HR.out _ (List.mem_of_getElem? he)
     have h4 := HT.out (i + 1)
     rw [HW.out i _ he, List.length_append] at h4
     obtain ⟨s', w2, hrun, ho, hgw⟩ := app_run _ w.heap.size _ ((Xs.take i).flatMap Prod.snd) ts xa xn xc 23 HO.out (hxn.1.below KG.out) hxn.2 h4 KG.out.size
     have HO2 := Lib.hid ho
     have KG2 := Lib.hid (KG.out.grown hgw KG.out.size (fun g hg => (World.ownsRow.lt HO.out g hg).1))
     have ek : IntKind.i64.wrap ((i : Int) + 1) = (i : Int) + 1 := IntWalk.i64_in _ (by have := HIN.out; have := HN.out; omega)
     clear he hxn h4 ho hgw
     go_wp2_with (first | (at_builtin; refine wpList_append_run rfl _ _ 23 rfl _ _ rfl rfl _ _ hrun ?_))
     go_roundw
     case rel =>
      refine ⟨i + 1, by have := HIN.out; omega, rfl, ?_, KG2.out⟩
      rw [HW.out i _ HE.out]
      exact HO2.out
     case measure => simp [intOf]; have := HIN.out; omega
    ·have HIE := Lib.hid (show i = m by have := HI.out; omega)
     have hge : ¬ ((i : Int) < (m : Int)) := by omega
     clear hin
     go_wp2_with fail
     go_ret
     refine ⟨_, rfl, ?_, KG.out⟩
     have h := HO.out
     rw [HIE.out, HM.out, List.take_length] at h
     exact h
theorem of_at {w V : World} {x : PV} {P : List Tm} (h : AP w x P) (hV : Below w.heap.size w V) (hq : ∀ t ∈ P, LQ t.2 900000) (hn : x.n ≤ 1000000000) : Calls Tryz.prog 47 #[x.v] V fun e w' => ∃ y : PV, e = .returned y.v ∧ KP w y P ∧ y.n ≤ x.n ∧ Below V.heap.size V w' := by
 rcases h with h | ⟨h, rfl⟩
 ·exact (of_k (h.below hV) hq hn).mono fun e w' ⟨h1, h2⟩ => ⟨x, h1, h, Nat.le_refl _, h2⟩
 ·exact (of_b (h.below hV) hn).mono fun e w' ⟨h1, h2⟩ => ⟨⟨none, 0, 0⟩, h1, KP.nil _ _ _, Nat.zero_le _, h2⟩
theorem AP.canon {w : World} {x : PV} {P : List Tm} (h : AP w x P) : Canon P := h.elim (fun h => h.canon) (fun h => by rw [h.2]; exact Canon.nil)
theorem AP.small {w : World} {x : PV} {P : List Tm} (h : AP w x P) : ∀ t ∈ P, t.1.Small := h.elim (fun h => h.small) (fun h => by rw [h.2]; exact fun t ht => by cases ht)
theorem pair_get {α : Type} {x y : α} {P : α → Prop} (h1 : P x) (h2 : P y) : ∀ e ∈ [x, y], P e := fun e he => by
 rcases List.mem_cons.1 he with rfl | he
 ·exact h1
 ·rw [List.mem_singleton.1 he]; exact h2
set_option maxRecDepth 100000 in
set_option maxHeartbeats 16000000 in
theorem add_any (x y : PV) (P Q : List Tm) (k : Nat) (w : World) (hx : AP w x P) (hy : AP w y Q) (hxn : x.n ≤ 1000000) (hyn : y.n ≤ 1000000) (hp : ∀ t ∈ P, LQ t.2 k) (hq : ∀ t ∈ Q, LQ t.2 k)
  (hk : 2 * k + 2 ≤ 900000) (hn : P.length + Q.length ≤ 1000000) :
  Calls Tryz.prog 29 #[x.v, y.v] w fun e w' => ∃ z : PV, e = .returned z.v ∧ DP w' w.heap.size z (addP P Q) ∧ Below w.heap.size w w' := by
 have HX := Lib.hid hx; have HY := Lib.hid hy; have HXN := Lib.hid hxn; have HYN := Lib.hid hyn; have HK := Lib.hid hk
 have hall : ∀ t ∈ P ++ Q, LQ t.2 k := fun t ht => (List.mem_append.1 ht).elim (hp t) (hq t)
 have HALL := Lib.hid hall; have HN := Lib.hid hn
 have HCF := Lib.hid (show ∀ j m, cf ((P ++ Q).take j) m = 0 ∨ LQ (cf ((P ++ Q).take j) m) (2 * k + 2) from fun j m => add_cf hx.canon hy.canon hp hq j m)
 have HPQ := Lib.hid (show ∀ t ∈ P, LQ t.2 900000 from fun t ht => (hp t ht).up (by omega))
 have HQQ := Lib.hid (show ∀ t ∈ Q, LQ t.2 900000 from fun t ht => (hq t ht).up (by omega))
 have hmm := fun (t : TypeId) (w : World) => run_makeMap (P := Tryz.prog) t w
 obtain ⟨xa, xn, xc⟩ := x
 obtain ⟨ya, yn, yc⟩ := y
 change Calls Tryz.prog 29 #[.slice xa xn xc, .slice ya yn yc] w _
 clear hx hy hxn hyn hp hq hk hn hall
 go_enter Tryz.func29, Tryz.ntmps29
 go_upto_region 2 with (fail)
 clear hmm
 obtain ⟨V0, hV⟩ : ∃ V, V = w.alloc (.map #[] 0) := ⟨_, rfl⟩
 have hbV : Below w.heap.size w V0 := by rw [hV]; exact (Below.refl _ _).alloc (Nat.le_refl _) _
 have HM0 := Lib.hid (show MK V0 w.heap.size w.heap.size [] by rw [hV]; exact ⟨heap_alloc_new w _, Nat.le_refl _, fun e he => (by cases he), List.Pairwise.nil, List.nodup_nil, fun e he => (by cases he)⟩)
 rw [← hV]
 have KG := Lib.hid hbV
 clear hV hbV
 have O1 := Lib.hid (of_at HX.out KG.out HPQ.out (by have h : xn ≤ 1000000 := HXN.out; show xn ≤ _; omega))
 go_wp2_with fail
 with_reducible refine O1.out.mono ?_
 rintro e w1 ⟨⟨pa, pn, pc⟩, he, hp, hpn, hb⟩
 obtain rfl : e = .returned (.slice pa pn pc) := he
 have HP := Lib.hid hp; have HPN := Lib.hid hpn
 have HM1 := Lib.hid (HM0.out.below hb)
 have KG := Lib.hid (KG.out.trans (hb.mono KG.out.size))
 clear hp hpn hb O1 HM0
 have O2 := Lib.hid (of_at HY.out KG.out HQQ.out (by have h : yn ≤ 1000000 := HYN.out; show yn ≤ _; omega))
 go_wp2_with fail
 with_reducible refine O2.out.mono ?_
 rintro e w2 ⟨⟨qa, qn, qc⟩, he, hq, hqn, hb⟩
 obtain rfl : e = .returned (.slice qa qn qc) := he
 have HQ := Lib.hid hq; have HQN := Lib.hid hqn
 have HM2 := Lib.hid (HM1.out.below hb)
 have KG := Lib.hid (KG.out.trans (hb.mono KG.out.size))
 clear hq hqn hb O2 HM1
 obtain ⟨L1, g1, g2, g3, g4⟩ := HP.out.ex
 obtain ⟨L2, k1, k2, k3, k4⟩ := HQ.out.ex
 have BB := Lib.hid (Bxs.new w2 23 [.slice pa pn pc, .slice qa qn qc])
 have hb3 : Below w2.heap.size w2 (w2.alloc (.cells #[.slice pa pn pc, .slice qa qn qc] 23)) := (Below.refl _ _).alloc (Nat.le_refl _) _
 have HM3 := Lib.hid (HM2.out.below hb3)
 have KG := Lib.hid (KG.out.trans (hb3.mono KG.out.size))
 have HLL := Lib.hid (show (L1 ++ L2).map tm = P ++ Q by rw [List.map_append, g4, k4])
 have HKF := Lib.hid (show ∀ e ∈ L1 ++ L2, KF w e.1.c e.2 from fun e he => (List.mem_append.1 he).elim (g3 e) (k3 e))
 have HLN := Lib.hid (show L1.length + L2.length ≤ 2000000 by have h1 := HPN.out; have h2 := HXN.out; have h3 := HQN.out; have h4 := HYN.out; change pn ≤ xn at h1; change xn ≤ _ at h2; change qn ≤ yn at h3; change yn ≤ _ at h4; change L1.length = pn at g2; change L2.length = qn at k2; omega)
 have CC := Lib.hid (show Calls Tryz.prog 77 #[.slice (some ⟨w2.heap.size, 0, none⟩) 2 2] (w2.alloc (.cells #[.slice pa pn pc, .slice qa qn qc] 23)) _ from conc_any w2.heap.size [(⟨pa, pn, pc⟩, L1.map Prod.fst), (⟨qa, qn, qc⟩, L2.map Prod.fst)] (w2.alloc (.cells #[.slice pa pn pc, .slice qa qn qc] 23)) (fun i e he => by
   match i, he with
   | 0, he => obtain rfl := Option.some.inj he; exact BB.out.cell (i := 0) rfl
   | 1, he => obtain rfl := Option.some.inj he; exact BB.out.cell (i := 1) rfl)
  (pair_get ⟨g1.below KG.out, by rw [List.length_map]; exact g2⟩ ⟨k1.below KG.out, by rw [List.length_map]; exact k2⟩) (by simp; have := HLN.out; omega) (by simp))
 have HF := Lib.hid (show (([(⟨pa, pn, pc⟩, L1.map Prod.fst), (⟨qa, qn, qc⟩, L2.map Prod.fst)] : List (PV × List TV)).flatMap Prod.snd) = (L1 ++ L2).map Prod.fst by simp)
 have HLEN := Lib.hid (show (L1 ++ L2).length ≤ 2000000 by rw [List.length_append]; exact HLN.out)
 obtain ⟨L, hL⟩ : ∃ L, L = L1 ++ L2 := ⟨_, rfl⟩
 rw [← hL] at HLL HKF HF HLEN
 clear g1 g2 g3 g4 k1 k2 k3 k4 hL hb3 HM2
 go_wp2_with fail
 with_reducible refine CC.out.mono ?_
 rintro e w3 ⟨v, rfl, ho, hb⟩
 rw [HF.out] at ho
 have HO3 := Lib.hid (OT.mono ho KG.out.size)
 have HM4 := Lib.hid (HM3.out.below hb)
 have KG := Lib.hid (KG.out.trans (hb.mono KG.out.size))
 clear ho hb CC HM3 BB
 obtain ⟨ra, rc, rfl, -, -⟩ := OT.slice HO3.out
 obtain ⟨rn, hrn⟩ : ∃ n, n = (L.map Prod.fst).length := ⟨_, rfl⟩
 rw [← hrn] at HO3 ⊢
 have HRN := Lib.hid (show L.length = rn by rw [hrn, List.length_map])
 clear hrn
 go_wp2_with fail
 go_loopw [16] (fun i wr => ∃ (j : Nat) (M : List TE), j ≤ rn ∧ i = .int .i64 j ∧ MK wr w.heap.size w.heap.size M ∧ (∀ f, ev (M.map tm) f = ev ((L.take j).map tm) f) ∧ M.length ≤ j ∧ OT wr w.heap.size (.slice ra rn rc) (L.map Prod.fst) ∧ Below w.heap.size w wr) (fun i _ => rn - (intOf i).toNat)
 case atStart =>
  exact ⟨0, [], Nat.zero_le _, rfl, HM4.out, fun f => (by rw [List.take_zero]), Nat.le_refl _, HO3.out, KG.out⟩
 case round =>
  obtain ⟨j, M, hj, rfl, hM, hev, hml, ho, hb0⟩ := hrel
  have HJ := Lib.hid hj; have HM := Lib.hid hM; have HEV := Lib.hid hev; have HML := Lib.hid hml; have HO := Lib.hid ho; have KG := Lib.hid hb0
  clear hj hM hev hml ho hb0
  have HLP := Lib.hid (show L.length = P.length + Q.length by have h := congrArg List.length HLL.out; rw [List.length_map, List.length_append] at h; exact h)
  have HLK := Lib.hid (show ∀ e ∈ M, LQ e.2 900000 from fun e he => by
   refine like_lq (l := M.map tm) (L := (L.take j).map tm) ?_ HEV.out (fun m => ?_) HK.out (tm e) (List.mem_map_of_mem he)
   ·have h := HM.out.keys
    rw [List.map_map]
    exact h
   ·rw [List.map_take, HLL.out]; exact HCF.out j m)
  by_cases hjn : j < rn
  ·have HJN := Lib.hid hjn
   have hjl : j < L.length := by rw [HRN.out]; exact hjn
   obtain ⟨ra', rc', e1, -, hrt⟩ := OT.slice HO.out
   obtain ⟨rfl, -, rfl⟩ : ra = ra' ∧ rn = _ ∧ rc = rc' := by simpa only [Value.slice.injEq] using e1
   obtain ⟨pb, po, rfl, hpb, hcs⟩ := hrt.off (i := j) (by rw [List.length_map]; exact hjl)
   obtain ⟨e, he⟩ : ∃ e, L[j]? = some e := ⟨_, List.getElem?_eq_getElem hjl⟩
   obtain ⟨t, q⟩ := e
   obtain ⟨c0, c1, c2, c3, c4, c5, c6, c7⟩ := RT.eight hcs (i := j) (t := t) (by rw [List.getElem?_map, he]; rfl)
   have HE := Lib.hid he
   have hmem := List.mem_of_getElem? he
   clear hcs he hpb hjl hrt e1
   go_upto_region 5 with (fail)
   obtain ⟨V, hV⟩ : ∃ V, V = wr.alloc (.cells #[.bool t.c.t.s, .slice t.c.t.a t.c.t.n t.c.t.c, .bool t.c.l.s, .slice t.c.l.a t.c.l.n t.c.l.c, .int .u16 t.m.x, .int .u16 t.m.y, .int .u16 t.m.z, .int .u16 t.m.t] 50) := ⟨_, rfl⟩
   have hbV : Below wr.heap.size wr V := by rw [hV]; exact (Below.refl _ _).alloc (Nat.le_refl _) _
   have B7 := Lib.hid (show Bxs V wr.heap.size 50 [.bool t.c.t.s, .slice t.c.t.a t.c.t.n t.c.t.c, .bool t.c.l.s, .slice t.c.l.a t.c.l.n t.c.l.c, .int .u16 t.m.x, .int .u16 t.m.y, .int .u16 t.m.z, .int .u16 t.m.t] by rw [hV]; exact Bxs.new wr 50 [.bool t.c.t.s, .slice t.c.t.a t.c.t.n t.c.t.c, .bool t.c.l.s, .slice t.c.l.a t.c.l.n t.c.l.c, .int .u16 t.m.x, .int .u16 t.m.y, .int .u16 t.m.z, .int .u16 t.m.t])
   obtain ⟨A7, hA7⟩ : ∃ A, A = wr.heap.size := ⟨_, rfl⟩
   rw [← hV, ← hA7]
   rw [← hA7] at B7
   have HM := Lib.hid (HM.out.below hbV)
   have HO := Lib.hid (OT.below HO.out hbV)
   have KG := Lib.hid (KG.out.trans (hbV.mono KG.out.size))
   have NF := Lib.hid (show KF V t.c q from (HKF.out _ hmem).below KG.out)
   have hpq : (t.m, q) ∈ P ++ Q := by rw [← HLL.out]; exact List.mem_map_of_mem hmem
   have HQ1 := Lib.hid (show LQ q k from HALL.out _ hpq)
   have LQq := Lib.hid (show LQ q 900000 from HQ1.out.up (by have := HK.out; omega))
   have HS1 := Lib.hid (show t.m.Small from (List.mem_append.1 hpq).elim (HP.out.small _) (HQ.out.small _))
   have HSZ := Lib.hid (show w.heap.size ≤ V.heap.size from KG.out.size)
   have ek : IntKind.i64.wrap ((j : Int) + 1) = (j : Int) + 1 := IntWalk.i64_in _ (by have := HJN.out; have := HRN.out; have := HLEN.out; omega)
   clear hV hbV hA7 hmem hpq c0 c1 c2 c3 c4 c5 c6 c7 hjn
   have HMV := Lib.hid (show ∀ e ∈ M, ∀ b, FV.blk e.1.c b → b < V.heap.size from fun e he b hb => ((HM.out.df e he).blks b hb).2)
   obtain ⟨q101, hq101⟩ : ∃ z : Rat, z = ((1 : Int) : Rat) := ⟨_, rfl⟩
   have Hq101 := Lib.hid hq101
   have LQq101 := Lib.hid (show LQ q101 3 by rw [hq101]; exact LQ.int (by decide) (by decide))
   clear hq101
   obtain ⟨q102, hq102⟩ : ∃ z : Rat, z = q * q101 := ⟨_, rfl⟩
   have Hq102 := Lib.hid hq102
   have LQq102 := Lib.hid (show LQ q102 1800000 by rw [hq102]; exact LQ.mul (LQq.out.up (by decide : _ ≤ 900000)) (LQq101.out.up (by decide : _ ≤ 900000)) (by decide))
   clear hq102
   go_upto_region 5 with (fail)
   refine Go.FS.wp_region_fresh 7 [] (Go.FS.spOf [(3, Go.FS.Sp.made (fun x : FV => x.v) (fun x w' => DF w' V.heap.size x q101) FV.blk), (4, Go.FS.Sp.made (fun x : FV => x.v) (fun x w' => DF w' V.heap.size x q102) FV.blk)])
    (fun w' => Below V.heap.size V w') (by kernel_rfl) (by kernel_rfl) (by kernel_rfl)
    (Go.FS.spOf_cons (Go.FS.Sp.made_keeps _ (fun _ _ _ h _ hk => h.kept hk) (Go.FS.notTaken (by kernel_rfl))) (Go.FS.spOf_cons (Go.FS.Sp.made_keeps _ (fun _ _ _ h _ hk => h.kept hk) (Go.FS.notTaken (by kernel_rfl))) (Go.FS.spOf_nil))) (fun _ _ h hb => h.trans (hb.mono h.size)) ((Below.refl _ _).drew) ?_
   simp only [List.append_eq, List.cons_append, List.nil_append, List.take_succ_cons, List.take_zero, List.drop_succ_cons, List.drop_zero]
   iterate 2
    refine Go.FS.wpF_reads rfl rfl rfl ?_ (fun w' hw' => ?_) ?_
    rotate_left
    ·have hb' := hw'.world
     skip
     clear hw'
     go_simp
     try rfl
    conv => arg 10; simp only [Act.put, Go.q0, Go.q1, Go.q2]
   refine Go.FS.wpF_reads rfl rfl rfl ?_ (fun w' hw' => ?_) ?_
   rotate_left
   ·have hb' := hw'.world
    have hs0 := (B7.out.below hb' B7.out.lt).cell (i := 0) rfl
    have hs1 := (B7.out.below hb' B7.out.lt).cell (i := 1) rfl
    have hs2 := (B7.out.below hb' B7.out.lt).cell (i := 2) rfl
    have hs3 := (B7.out.below hb' B7.out.lt).cell (i := 3) rfl
    have hs4 := (B7.out.below hb' B7.out.lt).cell (i := 4) rfl
    have hs5 := (B7.out.below hb' B7.out.lt).cell (i := 5) rfl
    have hs6 := (B7.out.below hb' B7.out.lt).cell (i := 6) rfl
    have hs7 := (B7.out.below hb' B7.out.lt).cell (i := 7) rfl
    have hsf := (B7.out.below hb' B7.out.lt).fz
    have hsl := (B7.out.below hb' B7.out.lt).lt
    clear hw'
    go_simp
    try rfl
   conv => arg 10; simp only [Act.put, Go.q0, Go.q1, Go.q2]
   refine Go.FS.wpF_spec rfl rfl rfl (fun w' hw' => ?_) ?_
   ·have hb' := hw'.world
    refine Go.FS.gives_of (Go.FS.PM (fun x : FV => x.v) (fun x w' => DF w' V.heap.size x q101) FV.blk w'.heap.size) ?_ (fun _ _ h => h.post (fun _ _ => FV.inj))
    go_simp
    have CT := qof 1 w' (by decide) (by decide)
    rw [show ((1 : Int) : Rat) = q101 from Hq101.out.symm] at CT
    refine CT.mono ?_
    rintro e w'' ⟨za, rfl, ho, hb⟩
    exact ⟨_, rfl, ⟨za, rfl, ho.mono hb'.size, ho.blks⟩, hb⟩
   rintro _ ⟨y3, rfl⟩
   conv => arg 10; simp only [Act.put, Go.q0, Go.q1, Go.q2]
   refine Go.FS.wpF_spec rfl rfl rfl (fun w' hw' => ?_) ?_
   ·have hb' := hw'.world
    refine Go.FS.gives_of (Go.FS.PM (fun x : FV => x.v) (fun x w' => DF w' V.heap.size x q102) FV.blk w'.heap.size) ?_ (fun _ _ h => h.post (fun _ _ => FV.inj))
    go_simp
    have f3 := Go.FS.made_of (val := (fun x : FV => x.v)) (Φ := fun x w' => DF w' V.heap.size x q101) (fun _ _ => FV.inj) (hw'.fact 3 (by kernel_rfl))
    have CT := qmul ((NF.out.below hb')).any (((NF.out.below hb')).len LQq.out (by decide : _ ≤ 900000)) (f3).k.any (((f3).k).len LQq101.out (by decide : _ ≤ 900000))
    rw [show q * q101 = q102 from Hq102.out.symm] at CT
    refine CT.mono ?_
    rintro e w'' ⟨za, rfl, ho, hb⟩
    exact ⟨_, rfl, ⟨za, rfl, ho.mono hb'.size, ho.blks⟩, hb⟩
   rintro _ ⟨y4, rfl⟩
   conv => arg 10; simp only [Act.put, Go.q0, Go.q1, Go.q2]
   refine Go.FS.wpF_reads rfl rfl rfl ?_ (fun w' hw' => ?_) ?_
   rotate_left
   ·have hb' := hw'.world
    skip
    clear hw'
    go_simp
    try rfl
   conv => arg 10; simp only [Act.put, Go.q0, Go.q1, Go.q2]
   refine Go.FS.wpF_reads rfl rfl rfl ?_ (fun w' hw' => ?_) ?_
   rotate_left
   ·have hb' := hw'.world
    have hs0 := (B7.out.below hb' B7.out.lt).cell (i := 0) rfl
    have hs1 := (B7.out.below hb' B7.out.lt).cell (i := 1) rfl
    have hs2 := (B7.out.below hb' B7.out.lt).cell (i := 2) rfl
    have hs3 := (B7.out.below hb' B7.out.lt).cell (i := 3) rfl
    have hs4 := (B7.out.below hb' B7.out.lt).cell (i := 4) rfl
    have hs5 := (B7.out.below hb' B7.out.lt).cell (i := 5) rfl
    have hs6 := (B7.out.below hb' B7.out.lt).cell (i := 6) rfl
    have hs7 := (B7.out.below hb' B7.out.lt).cell (i := 7) rfl
    have hsf := (B7.out.below hb' B7.out.lt).fz
    have hsl := (B7.out.below hb' B7.out.lt).lt
    clear hw'
    go_simp
    try rfl
   conv => arg 10; simp only [Act.put, Go.q0, Go.q1, Go.q2]
   refine Go.FS.wpF_nil (fun w103 hb hF => ?_)
   have N104 := Lib.hid (show DF w103 V.heap.size y4 q102 from (Go.FS.made_of (val := (fun x : FV => x.v)) (Φ := fun x w' => DF w' V.heap.size x q102) (fun _ _ => FV.inj) (hF.all 4)))
   clear hF
   have NF := Lib.hid (NF.out.below hb)
   have HM := Lib.hid (HM.out.below hb)
   have HO := Lib.hid (HO.out.below hb)
   have B7 := Lib.hid (B7.out.below hb B7.out.lt)
   have KG := Lib.hid (KG.out.trans (hb.mono KG.out.size))
   clear hb
   have HAP := Lib.hid (show ∀ e ∈ M, FV.apart e.1.c y4 from fun e he b hb1 hb2 => Nat.not_lt_of_le (N104.out.blks b hb2).1 (HMV.out e he b hb1))
   have AD := Lib.hid (add_likes w.heap.size w.heap.size M y4 q t.m w103 HM.out (show DF w103 w.heap.size y4 q by have h := N104.out.mono HSZ.out; rwa [show q102 = q by rw [Hq102.out, Hq101.out]; grind] at h) HAP.out HS1.out LQq.out HLK.out KG.out.size)
   go_wp2_with fail
   with_reducible refine AD.out.mono ?_
   rintro e w9 ⟨rfl, ⟨M', hM', hv'⟩, hOn⟩
   have HM' := Lib.hid hM'; have HV' := Lib.hid hv'
   have HO := Lib.hid (show OT w9 w.heap.size _ (L.map Prod.fst) from OT.only HO.out hOn (fun cur h => by rw [HM.out.blk] at h; cases h))
   have KG := Lib.hid (Only.bel KG.out hOn (Nat.le_refl _) KG.out.size)
   clear hM' hv' hOn AD
   go_wp2_with fail
   go_roundw
   case rel =>
    refine ⟨j + 1, M', by have := HJN.out; omega, rfl, HM'.out, fun f => ?_, ?_, HO.out, KG.out⟩
    ·rw [HV'.out, ev_putT, HEV.out, List.take_add_one, HE.out, List.map_append, ev_append]
     show _ = _ + (q * f t.m + 0)
     grind
    ·have h1 := congrArg List.length HV'.out
     have h2 := putT_len t.m q (M.map tm)
     rw [List.length_map] at h1 h2
     have := HML.out
     omega
   case measure => simp [intOf]; have := HJN.out; omega
  ·have HJE := Lib.hid (show j = rn by have := HJ.out; omega)
   have hge : ¬ ((j : Int) < (rn : Int)) := by omega
   have SM := Lib.hid (sum_likes w.heap.size w.heap.size M wr HM.out HLK.out KG.out.size (by have h1 := HML.out; have h2 := HJ.out; have h3 := HRN.out; have h4 := HLP.out; have h5 := HN.out; omega))
   clear hjn
   go_wp2_with fail
   with_reducible refine SM.out.mono ?_
   rintro e w9 ⟨z, rfl, hz, hb⟩
   have HZ := Lib.hid hz
   have KG := Lib.hid (KG.out.trans (hb.mono KG.out.size))
   clear hz hb SM
   go_wp2_with fail
   go_ret
   refine ⟨z, rfl, ?_, KG.out⟩
   have e1 : nf (M.map tm) = addP P Q := nf_of_ev fun f => by
    rw [HEV.out, List.take_of_length_le (by rw [HRN.out, HJE.out]; exact Nat.le_refl _), HLL.out]
   rw [← e1]
   exact HZ.out
theorem lq_neg : LQ ((-1 : Int) : Rat) 3 := LQ.int (by decide) (by decide)
set_option maxRecDepth 100000 in
set_option maxHeartbeats 16000000 in
theorem psub_any (x y : PV) (P Q : List Tm) (k n : Nat) (w : World) (hx : AP w x P) (hy : AP w y Q) (hxn : x.n ≤ 1000000) (hyn : y.n ≤ 1000000) (hp : ∀ t ∈ P, LQ t.2 k) (hq : PB Q n k 65535)
  (hk : 2 * k + 8 ≤ 900000) (hkk : n * (k + 4) ≤ 900000) (hn : P.length + n ≤ 1000000) :
  Calls Tryz.prog 35 #[x.v, y.v] w fun e w' => ∃ z : PV, e = .returned z.v ∧ DP w' w.heap.size z (subP P Q) ∧ Below w.heap.size w w' := by
 have HX := Lib.hid hx; have HY := Lib.hid hy; have HXN := Lib.hid hxn; have HYN := Lib.hid hyn; have HP := Lib.hid hp; have HQ := Lib.hid hq; have HK := Lib.hid hk; have HKK := Lib.hid hkk; have HN := Lib.hid hn
 have OF := Lib.hid (qof (-1) w (by decide) (by decide))
 obtain ⟨xa, xn, xc⟩ := x
 obtain ⟨ya, yn, yc⟩ := y
 change Calls Tryz.prog 35 #[.slice xa xn xc, .slice ya yn yc] w _
 clear hx hy hxn hyn hp hq hk hkk hn
 go_enter Tryz.func35, Tryz.ntmps35
 go_wp2_with fail
 with_reducible refine OF.out.mono ?_
 rintro e w1 ⟨c, rfl, hc, hb⟩
 have HC := Lib.hid hc
 have KG := Lib.hid hb
 clear hc hb OF
 have SC := Lib.hid (scale_any ⟨ya, yn, yc⟩ Q c ((-1 : Int) : Rat) k n 3 w1 (HY.out.below KG.out) HQ.out HYN.out HC.out.k.any ((HC.out.k).len lq_neg (by decide)) lq_neg (by have := HK.out; omega) HKK.out)
 go_wp2_with fail
 with_reducible refine SC.out.mono ?_
 rintro e w2 ⟨⟨za, zn, zc⟩, he, hz, hb⟩
 obtain rfl : e = .returned (.slice za zn zc) := he
 have HZ := Lib.hid (show DP w2 w1.heap.size ⟨za, zn, zc⟩ (scaleP (-1) Q) from by rw [show ((-1 : Rat)) = ((-1 : Int) : Rat) by decide +kernel]; exact hz)
 have KG := Lib.hid (KG.out.trans (hb.mono KG.out.size))
 clear hz hb SC
 have hPS := PB.scale HY.out.canon HQ.out (c := (-1 : Rat)) (k2 := 3) (by rw [show ((-1 : Rat)) = ((-1 : Int) : Rat) by decide +kernel]; exact lq_neg)
 have hzl := HZ.out.k.len
 have h1 := hPS.len
 have AD := Lib.hid (add_any ⟨xa, xn, xc⟩ ⟨za, zn, zc⟩ P (scaleP (-1) Q) (k + 3) w2 (HX.out.below KG.out) HZ.out.k.any HXN.out (by have := HN.out; omega) (fun t ht => (HP.out t ht).up (by omega)) hPS.lq (by have := HK.out; omega) (by have := HN.out; omega))
 clear hPS hzl h1
 go_wp2_with fail
 with_reducible refine AD.out.mono ?_
 rintro e w3 ⟨z, rfl, hz, hb⟩
 have HR := Lib.hid (hz.mono KG.out.size)
 have KG := Lib.hid (KG.out.trans (hb.mono KG.out.size))
 clear hz hb AD
 go_wp2_with fail
 go_ret
 exact ⟨z, rfl, HR.out, KG.out⟩
theorem mono_mul (a b : Mo) (w : World) (h : (a.mul b).Small) : Calls Tryz.prog 60 #[Mo.v a, Mo.v b] w fun e w' => e = .returned (.tuple #[Mo.v (a.mul b), .int .i64 0]) ∧ Below w.heap.size w w' := by
 obtain ⟨h1, h2, h3, h4⟩ := h
 change a.x + b.x ≤ 65535 at h1
 change a.y + b.y ≤ 65535 at h2
 change a.z + b.z ≤ 65535 at h3
 change a.t + b.t ≤ 65535 at h4
 have hs : ∀ m : Mo, m.Small → Mono.Small (fun i => ((m.at i : Nat) : Int)) := fun m hm i hi => by
  obtain ⟨g1, g2, g3, g4⟩ := hm
  match i, hi with
  | 0, _ => exact ⟨Int.natCast_nonneg _, by show (m.x : Int) ≤ _; omega⟩
  | 1, _ => exact ⟨Int.natCast_nonneg _, by show (m.y : Int) ≤ _; omega⟩
  | 2, _ => exact ⟨Int.natCast_nonneg _, by show (m.z : Int) ≤ _; omega⟩
  | 3, _ => exact ⟨Int.natCast_nonneg _, by show (m.t : Int) ≤ _; omega⟩
 have hB : Mono.mulB (fun i => ((a.at i : Nat) : Int)) (fun i => ((b.at i : Nat) : Int)) = true := decide_eq_true (by
  show (a.x : Int) + b.x ≤ 65535 ∧ (a.y : Int) + b.y ≤ 65535 ∧ (a.z : Int) + b.z ≤ 65535 ∧ (a.t : Int) + b.t ≤ 65535
  omega)
 refine (Mono.mul_any (fun i => ((a.at i : Nat) : Int)) (fun i => ((b.at i : Nat) : Int)) w (hs a ⟨by omega, by omega, by omega, by omega⟩) (hs b ⟨by omega, by omega, by omega, by omega⟩)).mono ?_
 rintro e w' ⟨rfl, hb⟩
 refine ⟨?_, hb⟩
 unfold Mono.mulE Mono.mulM
 simp only [hB, if_true]
 rfl
theorem mono_mulX (a b : Mo) (w : World) (ha : a.Small) (hb : b.Small) (h : ¬ (a.mul b).Small) : Calls Tryz.prog 60 #[Mo.v a, Mo.v b] w fun e w' => e = .returned (.tuple #[.agg #[.int .u16 0, .int .u16 0, .int .u16 0, .int .u16 0], .int .i64 3]) ∧ Below w.heap.size w w' := by
 have hs : ∀ m : Mo, m.Small → Mono.Small (fun i => ((m.at i : Nat) : Int)) := fun m hm i hi => by
  obtain ⟨g1, g2, g3, g4⟩ := hm
  match i, hi with
  | 0, _ => exact ⟨Int.natCast_nonneg _, by show (m.x : Int) ≤ _; omega⟩
  | 1, _ => exact ⟨Int.natCast_nonneg _, by show (m.y : Int) ≤ _; omega⟩
  | 2, _ => exact ⟨Int.natCast_nonneg _, by show (m.z : Int) ≤ _; omega⟩
  | 3, _ => exact ⟨Int.natCast_nonneg _, by show (m.t : Int) ≤ _; omega⟩
 have hB : Mono.mulB (fun i => ((a.at i : Nat) : Int)) (fun i => ((b.at i : Nat) : Int)) = false := decide_eq_false (by
  show ¬ ((a.x : Int) + b.x ≤ 65535 ∧ (a.y : Int) + b.y ≤ 65535 ∧ (a.z : Int) + b.z ≤ 65535 ∧ (a.t : Int) + b.t ≤ 65535)
  intro h2
  refine h ⟨?_, ?_, ?_, ?_⟩
  ·show a.x + b.x ≤ 65535; omega
  ·show a.y + b.y ≤ 65535; omega
  ·show a.z + b.z ≤ 65535; omega
  ·show a.t + b.t ≤ 65535; omega)
 refine (Mono.mul_any (fun i => ((a.at i : Nat) : Int)) (fun i => ((b.at i : Nat) : Int)) w (hs a ha) (hs b hb)).mono ?_
 rintro e w' ⟨rfl, hb⟩
 refine ⟨?_, hb⟩
 unfold Mono.mulE Mono.mulM
 simp only [hB]
 rfl
def Ovf (P Q : List Tm) : Prop := ∃ s ∈ P, ∃ t ∈ Q, ¬ (s.1.mul t.1).Small
def MulR (w : World) (P Q : List Tm) (e : Ending) (w' : World) : Prop :=
 (∃ z : PV, e = .returned (.tuple #[z.v, .int .i64 0]) ∧ ¬ Ovf P Q ∧ DP w' w.heap.size z (mulP P Q) ∧ Below w.heap.size w w') ∨ (e = .returned (.tuple #[.slice none 0 0, .int .i64 3]) ∧ Ovf P Q ∧ Below w.heap.size w w')
theorem Bxs.only {w w' : World} {b g : Nat} {t : TypeId} {l : List Value} {es : Array MapEntry} {k : Nat} (h : Bxs w g t l) (ho : Only b w w') (hm : w.heap[b]? = some (.map es k)) : Bxs w' g t l :=
 h.of (ho.2.2.2.2 g h.lt fun e => by subst e; have h2 : w.heap[g]? = some (.cells l.toArray t (0, 0)) := h; rw [hm] at h2; cases h2)
set_option maxRecDepth 100000 in
set_option maxHeartbeats 16000000 in
theorem mul_g (x y : PV) (P Q : List Tm) (k1 k2 : Nat) (w : World) (hx : KP w x P) (hy : KP w y Q) (hp : ∀ t ∈ P, LQ t.2 k1) (hq : ∀ t ∈ Q, LQ t.2 k2) (hk : k1 + k2 ≤ 900000)
  (hc : ∀ (i : Nat) (s : Tm) (j : Nat) (m : Mo), P[i]? = some s → cf (mulL (P.take i) Q ++ rowL s (Q.take j)) m = 0 ∨ LQ (cf (mulL (P.take i) Q ++ rowL s (Q.take j)) m) 900000)
  (hd : ∀ (i : Nat) (m : Mo), cf (mulL (P.take i) Q) m = 0 ∨ LQ (cf (mulL (P.take i) Q) m) 900000)
  (hn : P.length * Q.length ≤ 1000000) (hpn : P.length ≤ 1000000) (hqn : Q.length ≤ 1000000) :
  Calls Tryz.prog 20 #[x.v, y.v] w (MulR w P Q) := by
 have HX := Lib.hid hx; have HY := Lib.hid hy; have HP := Lib.hid hp; have HQ := Lib.hid hq; have HK := Lib.hid hk; have HC := Lib.hid hc; have HD := Lib.hid hd; have HN := Lib.hid hn
 have HPN := Lib.hid hpn; have HQN := Lib.hid hqn
 have hxl := hx.len
 have hyl := hy.len
 have hmm := fun (t : TypeId) (w : World) => run_makeMap (P := Tryz.prog) t w
 have C1 := Lib.hid (check_k hx (fun t ht => (hp t ht).up (by omega)) (by omega))
 obtain ⟨xa, xn, xc⟩ := x
 obtain ⟨ya, yn, yc⟩ := y
 change Calls Tryz.prog 20 #[.slice xa xn xc, .slice ya yn yc] w _
 change xn = P.length at hxl
 change yn = Q.length at hyl
 have HXL := Lib.hid hxl; have HYL := Lib.hid hyl
 obtain ⟨L1, g1, g2, g3, g4⟩ := hx.ex
 obtain ⟨L2, k3, k4, k5, k6⟩ := hy.ex
 have R1 := Lib.hid g1; have R2 := Lib.hid k3; have F1 := Lib.hid g3; have F2 := Lib.hid k5; have T1 := Lib.hid g4; have T2 := Lib.hid k6
 have N1 := Lib.hid (show L1.length = xn from g2); have N2 := Lib.hid (show L2.length = yn from k4)
 clear hx hy hp hq hk hc hd hn hpn hqn hxl hyl g1 g2 g3 g4 k3 k4 k5 k6
 go_enter Tryz.func20, Tryz.ntmps20
 go_wp2_with fail
 with_reducible refine C1.out.mono ?_
 rintro e w1 ⟨rfl, hb⟩
 have KG := Lib.hid hb
 clear hb C1
 have C2 := Lib.hid (check_k (HY.out.below KG.out) (fun t ht => (HQ.out t ht).up (by have := HK.out; omega)) (by have h := HYL.out; have := HQN.out; show yn ≤ _; omega))
 go_wp2_with fail
 with_reducible refine C2.out.mono ?_
 rintro e w2 ⟨rfl, hb⟩
 have KG := Lib.hid (KG.out.trans (hb.mono KG.out.size))
 clear hb C2
 go_upto_region 4 with (fail)
 obtain ⟨V0, hV⟩ : ∃ V, V = w2.alloc (.map #[] 0) := ⟨_, rfl⟩
 have hbV : Below w2.heap.size w2 V0 := by rw [hV]; exact (Below.refl _ _).alloc (Nat.le_refl _) _
 obtain ⟨b, hb⟩ : ∃ b, b = w2.heap.size := ⟨_, rfl⟩
 have HM0 := Lib.hid (show MK V0 w.heap.size b [] by rw [hV, hb]; exact ⟨heap_alloc_new w2 _, KG.out.size, fun e he => (by cases he), List.Pairwise.nil, List.nodup_nil, fun e he => (by cases he)⟩)
 rw [← hV, ← hb]
 have HB := Lib.hid (show w.heap.size ≤ b by rw [hb]; exact KG.out.size)
 have KG := Lib.hid (KG.out.trans (hbV.mono KG.out.size))
 clear hV hbV hmm hb
 go_wp2_with fail
 go_loopw [24] (fun i wr => ∃ (j : Nat) (M : List TE), j ≤ xn ∧ i = .int .i64 j ∧ MK wr w.heap.size b M ∧ (∀ f, ev (M.map tm) f = ev (mulL (P.take j) Q) f) ∧ M.length ≤ j * Q.length ∧ (∀ s ∈ P.take j, ∀ u ∈ Q, (s.1.mul u.1).Small) ∧ Below w.heap.size w wr) (fun i _ => xn - (intOf i).toNat)
 case atStart =>
  exact ⟨0, [], Nat.zero_le _, rfl, HM0.out, fun f => (by rw [List.take_zero]; rfl), by simp, (fun s hs => by rw [List.take_zero] at hs; cases hs), KG.out⟩
 case round =>
  obtain ⟨j, M, hj, rfl, hM, hev, hml, hso, hb0⟩ := hrel
  have HSO := Lib.hid hso
  have HJ := Lib.hid hj; have HM := Lib.hid hM; have HEV := Lib.hid hev; have HML := Lib.hid hml; have KG := Lib.hid hb0
  clear hj hM hev hml hso hb0
  by_cases hjn : j < xn
  ·have HJN := Lib.hid hjn
   have hjl : j < L1.length := by rw [N1.out]; exact hjn
   obtain ⟨pb, po, rfl, hpb, hcs⟩ := (R1.out.below KG.out).off (i := j) (by rw [List.length_map]; exact hjl)
   obtain ⟨e, he⟩ : ∃ e, L1[j]? = some e := ⟨_, List.getElem?_eq_getElem hjl⟩
   obtain ⟨t, q⟩ := e
   obtain ⟨c0, c1, c2, c3, c4, c5, c6, c7⟩ := RT.eight hcs (i := j) (t := t) (by rw [List.getElem?_map, he]; rfl)
   have hmem := List.mem_of_getElem? he
   have HPJ := Lib.hid (show P[j]? = some (t.m, q) by rw [← T1.out, List.getElem?_map, he]; rfl)
   have NT := Lib.hid (show KF w t.c q from F1.out _ hmem)
   clear hcs he hpb hjl hmem
   go_upto_region 7 with (fail)
   obtain ⟨V, hV⟩ : ∃ V, V = wr.alloc (.cells #[.bool t.c.t.s, .slice t.c.t.a t.c.t.n t.c.t.c, .bool t.c.l.s, .slice t.c.l.a t.c.l.n t.c.l.c, .int .u16 t.m.x, .int .u16 t.m.y, .int .u16 t.m.z, .int .u16 t.m.t] 50) := ⟨_, rfl⟩
   have hbV : Below wr.heap.size wr V := by rw [hV]; exact (Below.refl _ _).alloc (Nat.le_refl _) _
   have B8 := Lib.hid (show Bxs V wr.heap.size 50 [.bool t.c.t.s, .slice t.c.t.a t.c.t.n t.c.t.c, .bool t.c.l.s, .slice t.c.l.a t.c.l.n t.c.l.c, .int .u16 t.m.x, .int .u16 t.m.y, .int .u16 t.m.z, .int .u16 t.m.t] by rw [hV]; exact Bxs.new wr 50 [.bool t.c.t.s, .slice t.c.t.a t.c.t.n t.c.t.c, .bool t.c.l.s, .slice t.c.l.a t.c.l.n t.c.l.c, .int .u16 t.m.x, .int .u16 t.m.y, .int .u16 t.m.z, .int .u16 t.m.t])
   obtain ⟨A8, hA8⟩ : ∃ A, A = wr.heap.size := ⟨_, rfl⟩
   rw [← hV, ← hA8]
   rw [← hA8] at B8
   have HM := Lib.hid (HM.out.below hbV)
   have KG := Lib.hid (KG.out.trans (hbV.mono KG.out.size))
   have ek : IntKind.i64.wrap ((j : Int) + 1) = (j : Int) + 1 := IntWalk.i64_in _ (by have := HJN.out; have := HXL.out; have := HPN.out; omega)
   clear hV hbV hA8 c0 c1 c2 c3 c4 c5 c6 c7 hjn
   go_wp2_with fail
   go_loopw [30] (fun i wi => ∃ (l : Nat) (M' : List TE), l ≤ yn ∧ i = .int .i64 l ∧ MK wi w.heap.size b M' ∧ Bxs wi A8 50 [.bool t.c.t.s, .slice t.c.t.a t.c.t.n t.c.t.c, .bool t.c.l.s, .slice t.c.l.a t.c.l.n t.c.l.c, .int .u16 t.m.x, .int .u16 t.m.y, .int .u16 t.m.z, .int .u16 t.m.t] ∧ (∀ f, ev (M'.map tm) f = ev (mulL (P.take j) Q ++ rowL (t.m, q) (Q.take l)) f) ∧ M'.length ≤ j * Q.length + l ∧ (∀ v ∈ Q.take l, (t.m.mul v.1).Small) ∧ Below w.heap.size w wi) (fun i _ => yn - (intOf i).toNat)
   case atStart =>
    exact ⟨0, M, Nat.zero_le _, rfl, HM.out, B8.out, fun f => (by rw [HEV.out, List.take_zero]; show _ = ev (_ ++ []) f; rw [List.append_nil]), HML.out, (fun v hv => by rw [List.take_zero] at hv; cases hv), KG.out⟩
   case round =>
    obtain ⟨l, M', hl, rfl, hM, hB8, hev, hml, hsi, hb0⟩ := hrel
    have HSI := Lib.hid hsi
    have HL := Lib.hid hl; have HM := Lib.hid hM; have B8 := Lib.hid hB8; have HEV := Lib.hid hev; have HML := Lib.hid hml; have KG := Lib.hid hb0
    clear hl hM hB8 hev hml hsi hb0
    by_cases hln : l < yn
    ·have HLN := Lib.hid hln
     have hll : l < L2.length := by rw [N2.out]; exact hln
     obtain ⟨qb, qo, rfl, hqb, hcs⟩ := (R2.out.below KG.out).off (i := l) (by rw [List.length_map]; exact hll)
     obtain ⟨e, he⟩ : ∃ e, L2[l]? = some e := ⟨_, List.getElem?_eq_getElem hll⟩
     obtain ⟨u, r⟩ := e
     obtain ⟨c0, c1, c2, c3, c4, c5, c6, c7⟩ := RT.eight hcs (i := l) (t := u) (by rw [List.getElem?_map, he]; rfl)
     have hmem := List.mem_of_getElem? he
     have HQL := Lib.hid (show Q[l]? = some (u.m, r) by rw [← T2.out, List.getElem?_map, he]; rfl)
     have NU := Lib.hid (show KF w u.c r from F2.out _ hmem)
     clear hcs he hqb hll hmem
     go_upto_region 10 with (fail)
     obtain ⟨V, hV⟩ : ∃ V, V = wr.alloc (.cells #[.bool u.c.t.s, .slice u.c.t.a u.c.t.n u.c.t.c, .bool u.c.l.s, .slice u.c.l.a u.c.l.n u.c.l.c, .int .u16 u.m.x, .int .u16 u.m.y, .int .u16 u.m.z, .int .u16 u.m.t] 50) := ⟨_, rfl⟩
     have hbV : Below wr.heap.size wr V := by rw [hV]; exact (Below.refl _ _).alloc (Nat.le_refl _) _
     have B10 := Lib.hid (show Bxs V wr.heap.size 50 [.bool u.c.t.s, .slice u.c.t.a u.c.t.n u.c.t.c, .bool u.c.l.s, .slice u.c.l.a u.c.l.n u.c.l.c, .int .u16 u.m.x, .int .u16 u.m.y, .int .u16 u.m.z, .int .u16 u.m.t] by rw [hV]; exact Bxs.new wr 50 [.bool u.c.t.s, .slice u.c.t.a u.c.t.n u.c.t.c, .bool u.c.l.s, .slice u.c.l.a u.c.l.n u.c.l.c, .int .u16 u.m.x, .int .u16 u.m.y, .int .u16 u.m.z, .int .u16 u.m.t])
     obtain ⟨A10, hA10⟩ : ∃ A, A = wr.heap.size := ⟨_, rfl⟩
     rw [← hV, ← hA10]
     rw [← hA10] at B10
     have HM := Lib.hid (HM.out.below hbV)
     have B8 := Lib.hid (B8.out.below hbV B8.out.lt)
     have KG := Lib.hid (KG.out.trans (hbV.mono KG.out.size))
     have hpm := List.mem_of_getElem? HPJ.out
     have hqm := List.mem_of_getElem? HQL.out
     have LQq := Lib.hid (show LQ q 900000 from (HP.out _ hpm).up (by have := HK.out; omega))
     have LQr := Lib.hid (show LQ r 900000 from (HQ.out _ hqm).up (by have := HK.out; omega))
     have HQR := Lib.hid (show LQ (q * r) 900000 from ((HP.out _ hpm).ls.mul (HQ.out _ hqm).ls).lq HK.out HK.out)
     have HTS := Lib.hid (show t.m.Small from HX.out.small _ hpm)
     have HUS := Lib.hid (show u.m.Small from HY.out.small _ hqm)
     clear hV hbV hA10 hpm hqm c0 c1 c2 c3 c4 c5 c6 c7 hln
     by_cases hsm : (t.m.mul u.m).Small
     ·have HSM := Lib.hid hsm
      clear hsm
      obtain ⟨m, hm⟩ : ∃ m, m = t.m.mul u.m := ⟨_, rfl⟩
      have MU := Lib.hid (mono_mul t.m u.m V HSM.out)
      rw [← hm] at MU HSM
      have HMU := Lib.hid hm
      clear hm
      have c80 := B8.out.cell (i := 0) rfl
      have c81 := B8.out.cell (i := 1) rfl
      have c82 := B8.out.cell (i := 2) rfl
      have c83 := B8.out.cell (i := 3) rfl
      have c84 := B8.out.cell (i := 4) rfl
      have c85 := B8.out.cell (i := 5) rfl
      have c86 := B8.out.cell (i := 6) rfl
      have c87 := B8.out.cell (i := 7) rfl
      have c100 := B10.out.cell (i := 0) rfl
      have c101 := B10.out.cell (i := 1) rfl
      have c102 := B10.out.cell (i := 2) rfl
      have c103 := B10.out.cell (i := 3) rfl
      have c104 := B10.out.cell (i := 4) rfl
      have c105 := B10.out.cell (i := 5) rfl
      have c106 := B10.out.cell (i := 6) rfl
      have c107 := B10.out.cell (i := 7) rfl
      go_wp2_with fail
      with_reducible refine MU.out.mono ?_
      rintro e w5 ⟨rfl, hb⟩
      have HM := Lib.hid (HM.out.below hb)
      have B8 := Lib.hid (B8.out.below hb B8.out.lt)
      have B10 := Lib.hid (B10.out.below hb B10.out.lt)
      have KG := Lib.hid (KG.out.trans (hb.mono KG.out.size))
      clear hb MU c80 c81 c82 c83 c84 c85 c86 c87 c100 c101 c102 c103 c104 c105 c106 c107
      go_upto_region 13 with (fail)
      obtain ⟨V, hV⟩ : ∃ V, V = w5.alloc (.cells #[.int .u16 m.x, .int .u16 m.y, .int .u16 m.z, .int .u16 m.t] 48) := ⟨_, rfl⟩
      have hbV : Below w5.heap.size w5 V := by rw [hV]; exact (Below.refl _ _).alloc (Nat.le_refl _) _
      have B11 := Lib.hid (show Bxs V w5.heap.size 48 [.int .u16 m.x, .int .u16 m.y, .int .u16 m.z, .int .u16 m.t] by rw [hV]; exact Bxs.new w5 48 [.int .u16 m.x, .int .u16 m.y, .int .u16 m.z, .int .u16 m.t])
      obtain ⟨A11, hA11⟩ : ∃ A, A = w5.heap.size := ⟨_, rfl⟩
      rw [← hV, ← hA11]
      rw [← hA11] at B11
      have HM := Lib.hid (HM.out.below hbV)
      have B8 := Lib.hid (B8.out.below hbV B8.out.lt)
      have B10 := Lib.hid (B10.out.below hbV B10.out.lt)
      have KG := Lib.hid (KG.out.trans (hbV.mono KG.out.size))
      have NT := Lib.hid (NT.out.below KG.out)
      have NU := Lib.hid (NU.out.below KG.out)
      have HSZ := Lib.hid (show w.heap.size ≤ V.heap.size from KG.out.size)
      have HLK := Lib.hid (show ∀ e ∈ M', LQ e.2 900000 from fun e he => by
       refine like_lq (l := M'.map tm) (L := mulL (P.take j) Q ++ rowL (t.m, q) (Q.take l)) ?_ HEV.out (fun m => HC.out j _ l m HPJ.out) (Nat.le_refl _) (tm e) (List.mem_map_of_mem he)
       have h := HM.out.keys
       rw [List.map_map]
       exact h)
      have HMV := Lib.hid (show ∀ e ∈ M', ∀ b, FV.blk e.1.c b → b < V.heap.size from fun e he b hb => ((HM.out.df e he).blks b hb).2)
      have el : IntKind.i64.wrap ((l : Int) + 1) = (l : Int) + 1 := IntWalk.i64_in _ (by have := HLN.out; have := HYL.out; have := HQN.out; omega)
      clear hV hbV hA11
      obtain ⟨q101, hq101⟩ : ∃ z : Rat, z = q * r := ⟨_, rfl⟩
      have Hq101 := Lib.hid hq101
      have LQq101 := Lib.hid (show LQ q101 1800000 by rw [hq101]; exact LQ.mul (LQq.out.up (by decide : _ ≤ 900000)) (LQr.out.up (by decide : _ ≤ 900000)) (by decide))
      clear hq101
      go_upto_region 13 with (fail)
      refine Go.FS.wp_region_fresh 7 [] (Go.FS.spOf [(5, Go.FS.Sp.made (fun x : FV => x.v) (fun x w' => DF w' V.heap.size x q101) FV.blk)])
       (fun w' => Below V.heap.size V w') (by kernel_rfl) (by kernel_rfl) (by kernel_rfl)
       (Go.FS.spOf_cons (Go.FS.Sp.made_keeps _ (fun _ _ _ h _ hk => h.kept hk) (Go.FS.notTaken (by kernel_rfl))) (Go.FS.spOf_nil)) (fun _ _ h hb => h.trans (hb.mono h.size)) ((Below.refl _ _).drew) ?_
      simp only [List.append_eq, List.cons_append, List.nil_append, List.take_succ_cons, List.take_zero, List.drop_succ_cons, List.drop_zero]
      iterate 2
       refine Go.FS.wpF_reads rfl rfl rfl ?_ (fun w' hw' => ?_) ?_
       rotate_left
       ·have hb' := hw'.world
        skip
        clear hw'
        go_simp
        try rfl
       conv => arg 10; simp only [Act.put, Go.q0, Go.q1, Go.q2]
      refine Go.FS.wpF_reads rfl rfl rfl ?_ (fun w' hw' => ?_) ?_
      rotate_left
      ·have hb' := hw'.world
       have hs0 := (B8.out.below hb' B8.out.lt).cell (i := 0) rfl
       have hs1 := (B8.out.below hb' B8.out.lt).cell (i := 1) rfl
       have hs2 := (B8.out.below hb' B8.out.lt).cell (i := 2) rfl
       have hs3 := (B8.out.below hb' B8.out.lt).cell (i := 3) rfl
       have hs4 := (B8.out.below hb' B8.out.lt).cell (i := 4) rfl
       have hs5 := (B8.out.below hb' B8.out.lt).cell (i := 5) rfl
       have hs6 := (B8.out.below hb' B8.out.lt).cell (i := 6) rfl
       have hs7 := (B8.out.below hb' B8.out.lt).cell (i := 7) rfl
       have hsf := (B8.out.below hb' B8.out.lt).fz
       have hsl := (B8.out.below hb' B8.out.lt).lt
       clear hw'
       go_simp
       try rfl
      conv => arg 10; simp only [Act.put, Go.q0, Go.q1, Go.q2]
      refine Go.FS.wpF_reads rfl rfl rfl ?_ (fun w' hw' => ?_) ?_
      rotate_left
      ·have hb' := hw'.world
       skip
       clear hw'
       go_simp
       try rfl
      conv => arg 10; simp only [Act.put, Go.q0, Go.q1, Go.q2]
      refine Go.FS.wpF_reads rfl rfl rfl ?_ (fun w' hw' => ?_) ?_
      rotate_left
      ·have hb' := hw'.world
       have hs0 := (B10.out.below hb' B10.out.lt).cell (i := 0) rfl
       have hs1 := (B10.out.below hb' B10.out.lt).cell (i := 1) rfl
       have hs2 := (B10.out.below hb' B10.out.lt).cell (i := 2) rfl
       have hs3 := (B10.out.below hb' B10.out.lt).cell (i := 3) rfl
       have hs4 := (B10.out.below hb' B10.out.lt).cell (i := 4) rfl
       have hs5 := (B10.out.below hb' B10.out.lt).cell (i := 5) rfl
       have hs6 := (B10.out.below hb' B10.out.lt).cell (i := 6) rfl
       have hs7 := (B10.out.below hb' B10.out.lt).cell (i := 7) rfl
       have hsf := (B10.out.below hb' B10.out.lt).fz
       have hsl := (B10.out.below hb' B10.out.lt).lt
       clear hw'
       go_simp
       try rfl
      conv => arg 10; simp only [Act.put, Go.q0, Go.q1, Go.q2]
      refine Go.FS.wpF_spec rfl rfl rfl (fun w' hw' => ?_) ?_
      ·have hb' := hw'.world
       refine Go.FS.gives_of (Go.FS.PM (fun x : FV => x.v) (fun x w' => DF w' V.heap.size x q101) FV.blk w'.heap.size) ?_ (fun _ _ h => h.post (fun _ _ => FV.inj))
       go_simp
       have CT := qmul ((NT.out.below hb')).any (((NT.out.below hb')).len LQq.out (by decide : _ ≤ 900000)) ((NU.out.below hb')).any (((NU.out.below hb')).len LQr.out (by decide : _ ≤ 900000))
       rw [show q * r = q101 from Hq101.out.symm] at CT
       refine CT.mono ?_
       rintro e w'' ⟨za, rfl, ho, hb⟩
       exact ⟨_, rfl, ⟨za, rfl, ho.mono hb'.size, ho.blks⟩, hb⟩
      rintro _ ⟨y5, rfl⟩
      conv => arg 10; simp only [Act.put, Go.q0, Go.q1, Go.q2]
      refine Go.FS.wpF_reads rfl rfl rfl ?_ (fun w' hw' => ?_) ?_
      rotate_left
      ·have hb' := hw'.world
       have hs0 := (B11.out.below hb' B11.out.lt).cell (i := 0) rfl
       have hs1 := (B11.out.below hb' B11.out.lt).cell (i := 1) rfl
       have hs2 := (B11.out.below hb' B11.out.lt).cell (i := 2) rfl
       have hs3 := (B11.out.below hb' B11.out.lt).cell (i := 3) rfl
       have hsf := (B11.out.below hb' B11.out.lt).fz
       have hsl := (B11.out.below hb' B11.out.lt).lt
       clear hw'
       go_simp
       try rfl
      conv => arg 10; simp only [Act.put, Go.q0, Go.q1, Go.q2]
      refine Go.FS.wpF_nil (fun w102 hb hF => ?_)
      have N103 := Lib.hid (show DF w102 V.heap.size y5 q101 from (Go.FS.made_of (val := (fun x : FV => x.v)) (Φ := fun x w' => DF w' V.heap.size x q101) (fun _ _ => FV.inj) (hF.all 5)))
      clear hF
      have NT := Lib.hid (NT.out.below hb)
      have NU := Lib.hid (NU.out.below hb)
      have HM := Lib.hid (HM.out.below hb)
      have B8 := Lib.hid (B8.out.below hb B8.out.lt)
      have B10 := Lib.hid (B10.out.below hb B10.out.lt)
      have B11 := Lib.hid (B11.out.below hb B11.out.lt)
      have KG := Lib.hid (KG.out.trans (hb.mono KG.out.size))
      clear hb
      have HAP := Lib.hid (show ∀ e ∈ M', FV.apart e.1.c y5 from fun e he b hb1 hb2 => Nat.not_lt_of_le (N103.out.blks b hb2).1 (HMV.out e he b hb1))
      have AD := Lib.hid (add_likes b w.heap.size M' y5 (q * r) m w102 HM.out (show DF w102 w.heap.size y5 (q * r) by have h := N103.out.mono HSZ.out; rwa [show q101 = q * r from Hq101.out] at h) HAP.out HSM.out HQR.out HLK.out KG.out.size)
      have c110 := B11.out.cell (i := 0) rfl
      have c111 := B11.out.cell (i := 1) rfl
      have c112 := B11.out.cell (i := 2) rfl
      have c113 := B11.out.cell (i := 3) rfl
      go_wp2_with fail
      with_reducible refine AD.out.mono ?_
      rintro e w9 ⟨rfl, ⟨M2, hM2, hv'⟩, hOn⟩
      have HM2 := Lib.hid hM2; have HV' := Lib.hid hv'
      have B8 := Lib.hid (Bxs.only B8.out hOn HM.out.blk)
      have KG := Lib.hid (Only.bel KG.out hOn HB.out KG.out.size)
      clear hM2 hv' hOn AD c110 c111 c112 c113
      go_wp2_with fail
      go_roundw
      case rel =>
       refine ⟨l + 1, M2, by have := HLN.out; omega, rfl, HM2.out, B8.out, fun f => ?_, ?_, fun v hv => ?_, KG.out⟩
       ·rw [HV'.out, ev_putT, HEV.out, List.take_add_one, HQL.out]
        unfold rowL
        rw [List.map_append, ← List.append_assoc, ev_append (_ ++ _)]
        show _ = _ + (q * r * f (t.m.mul u.m) + 0)
        rw [HMU.out]
        grind
       ·have h1 := congrArg List.length HV'.out
        have h2 := putT_len m (q * r) (M'.map tm)
        rw [List.length_map] at h1 h2
        have := HML.out
        omega
       ·rw [List.take_add_one, HQL.out] at hv
        rcases List.mem_append.1 hv with hv | hv
        ·exact HSI.out v hv
        ·rw [List.mem_singleton.1 hv]
         show (t.m.mul u.m).Small
         rw [← HMU.out]
         exact HSM.out
      case measure => simp [intOf]; have := HLN.out; omega
     ·have MU := Lib.hid (mono_mulX t.m u.m V HTS.out HUS.out hsm)
      have HOV := Lib.hid (show Ovf P Q from ⟨_, List.mem_of_getElem? HPJ.out, _, List.mem_of_getElem? HQL.out, hsm⟩)
      clear hsm
      have c80 := B8.out.cell (i := 0) rfl
      have c81 := B8.out.cell (i := 1) rfl
      have c82 := B8.out.cell (i := 2) rfl
      have c83 := B8.out.cell (i := 3) rfl
      have c84 := B8.out.cell (i := 4) rfl
      have c85 := B8.out.cell (i := 5) rfl
      have c86 := B8.out.cell (i := 6) rfl
      have c87 := B8.out.cell (i := 7) rfl
      have c100 := B10.out.cell (i := 0) rfl
      have c101 := B10.out.cell (i := 1) rfl
      have c102 := B10.out.cell (i := 2) rfl
      have c103 := B10.out.cell (i := 3) rfl
      have c104 := B10.out.cell (i := 4) rfl
      have c105 := B10.out.cell (i := 5) rfl
      have c106 := B10.out.cell (i := 6) rfl
      have c107 := B10.out.cell (i := 7) rfl
      go_wp2_with fail
      with_reducible refine MU.out.mono ?_
      rintro e w5 ⟨rfl, hb⟩
      have KG := Lib.hid (KG.out.trans (hb.mono KG.out.size))
      clear hb MU c80 c81 c82 c83 c84 c85 c86 c87 c100 c101 c102 c103 c104 c105 c106 c107
      go_wp2_with fail
      go_ret2
      exact Or.inr ⟨rfl, HOV.out, KG.out.alloc KG.out.size _⟩
    ·have HLE := Lib.hid (show l = yn by have := HL.out; omega)
     have hge : ¬ ((l : Int) < (yn : Int)) := by omega
     clear hln
     go_wp2_with fail
     go_roundw
     case rel =>
      refine ⟨j + 1, M', by have := HJN.out; omega, rfl, HM.out, fun f => ?_, ?_, fun s hs => ?_, KG.out⟩
      ·rw [HEV.out, List.take_of_length_le (l := Q) (by rw [HLE.out, HYL.out]; exact Nat.le_refl _), List.take_add_one, HPJ.out]
       show _ = ev (mulL (P.take j ++ [(t.m, q)]) Q) f
       rw [mulL_snoc]
      ·rw [Nat.add_mul, Nat.one_mul, ← HYL.out, ← HLE.out, HLE.out, HYL.out]; have h := HML.out; have h2 := HLE.out; have h3 := HYL.out; omega
      ·rw [List.take_add_one, HPJ.out] at hs
       rcases List.mem_append.1 hs with hs | hs
       ·exact HSO.out s hs
       ·rw [List.mem_singleton.1 hs]
        intro v hv
        refine HSI.out v ?_
        rw [List.take_of_length_le (by rw [HLE.out, HYL.out]; exact Nat.le_refl _)]
        exact hv
     case measure => simp [intOf]; have := HJN.out; omega
  ·have HJE := Lib.hid (show j = xn by have := HJ.out; omega)
   have hge : ¬ ((j : Int) < (xn : Int)) := by omega
   have HLK := Lib.hid (show ∀ e ∈ M, LQ e.2 900000 from fun e he => by
    refine like_lq (l := M.map tm) (L := mulL (P.take j) Q) ?_ HEV.out (fun m => HD.out j m) (Nat.le_refl _) (tm e) (List.mem_map_of_mem he)
    have h := HM.out.keys
    rw [List.map_map]
    exact h)
   have SM := Lib.hid (sum_likes b w.heap.size M wr HM.out HLK.out KG.out.size (by have h1 := HML.out; rw [HJE.out, HXL.out] at h1; have h4 := HN.out; omega))
   clear hjn
   go_wp2_with fail
   with_reducible refine SM.out.mono ?_
   rintro e w9 ⟨z, rfl, hz, hb⟩
   have HZ := Lib.hid hz
   have KG := Lib.hid (KG.out.trans (hb.mono KG.out.size))
   clear hz hb SM
   go_wp2_with fail
   go_ret2
   refine Or.inl ⟨z, rfl, ?_, ?_, KG.out⟩
   ·rintro ⟨s, hs, u, hu, hov⟩
    refine hov (HSO.out s ?_ u hu)
    rw [List.take_of_length_le (by rw [HJE.out, HXL.out]; exact Nat.le_refl _)]
    exact hs
   have e1 : nf (M.map tm) = mulP P Q := nf_of_ev fun f => by
    rw [HEV.out, List.take_of_length_le (by rw [HJE.out, HXL.out]; exact Nat.le_refl _)]
   rw [← e1]
   exact HZ.out
theorem no_ovf {P Q : List Tm} {e1 e2 : Nat} (hp : ∀ t ∈ P, t.1.le e1) (hq : ∀ t ∈ Q, t.1.le e2) (he : e1 + e2 ≤ 65535) : ¬ Ovf P Q := fun ⟨s, hs, t, ht, h⟩ => h (by
 obtain ⟨a1, a2, a3, a4⟩ := hp s hs
 obtain ⟨b1, b2, b3, b4⟩ := hq t ht
 exact ⟨by show s.1.x + t.1.x ≤ _; omega, by show s.1.y + t.1.y ≤ _; omega, by show s.1.z + t.1.z ≤ _; omega, by show s.1.t + t.1.t ≤ _; omega⟩)
theorem mul_o (x y : PV) (P Q : List Tm) (k1 k2 : Nat) (w : World) (hx : KP w x P) (hy : KP w y Q) (hp : ∀ t ∈ P, LQ t.2 k1) (hq : ∀ t ∈ Q, LQ t.2 k2)
  (hk : P.length * (k1 + k2 + 1) ≤ 900000) (h2 : k2 ≤ 900000) (hn : P.length * Q.length ≤ 1000000) (hpn : P.length ≤ 1000000) (hqn : Q.length ≤ 1000000) :
  Calls Tryz.prog 20 #[x.v, y.v] w (MulR w P Q) := by
 match P, hx, hp, hk, hn, hpn with
 | [], hx, _, _, hn, hpn => exact mul_g x y [] Q 0 k2 w hx hy (fun t ht => by cases ht) hq (by omega) (fun i s j m hs => by cases hs) (fun i m => by rw [List.take_nil]; exact Or.inl rfl) hn hpn hqn
 | t :: r, hx, hp, hk, hn, hpn =>
  exact mul_g x y (t :: r) Q k1 k2 w hx hy hp hq (by have := Nat.le_mul_of_pos_left (k1 + k2 + 1) (show 0 < r.length + 1 by omega); rw [List.length_cons] at hk; omega) (fun i s j m hs => part_cf hy.canon hp hq hs j m hk) (fun i m => all_cf hy.canon hp hq i m hk) hn hpn hqn
theorem mul_k (x y : PV) (P Q : List Tm) (k1 k2 e1 e2 : Nat) (w : World) (hx : KP w x P) (hy : KP w y Q) (hp : ∀ t ∈ P, LQ t.2 k1 ∧ t.1.le e1) (hq : ∀ t ∈ Q, LQ t.2 k2 ∧ t.1.le e2)
  (hk : P.length * (k1 + k2 + 1) ≤ 900000) (_h1 : k1 ≤ 900000) (h2 : k2 ≤ 900000) (hn : P.length * Q.length ≤ 1000000) (hpn : P.length ≤ 1000000) (hqn : Q.length ≤ 1000000) (he : e1 + e2 ≤ 65535) :
  Calls Tryz.prog 20 #[x.v, y.v] w fun e w' => ∃ z : PV, e = .returned (.tuple #[z.v, .int .i64 0]) ∧ DP w' w.heap.size z (mulP P Q) ∧ Below w.heap.size w w' :=
 (mul_o x y P Q k1 k2 w hx hy (fun t ht => (hp t ht).1) (fun t ht => (hq t ht).1) hk h2 hn hpn hqn).mono fun e w' h => h.elim (fun ⟨z, h1, _, h2, h3⟩ => ⟨z, h1, h2, h3⟩) (fun ⟨_, h, _⟩ => absurd h (no_ovf (fun t ht => (hp t ht).2) (fun t ht => (hq t ht).2) he))
structure RE (w : World) (b off i : Nat) (t : TV) : Prop where
 lt : b < w.heap.size
 cell : ∀ j v, t.cells[j]? = some v → w.cell? ⟨b, off + i * 8 + j, none⟩ = some v
theorem RE.below {w w' : World} {b off i : Nat} {t : TV} (h : RE w b off i t) (hb : Below w.heap.size w w') : RE w' b off i t :=
 ⟨Nat.lt_of_lt_of_le h.lt hb.size, fun j v hj => (hb.cell (p := ⟨b, off + i * 8 + j, none⟩) h.lt).trans (h.cell j v hj)⟩
theorem RE.eight {w : World} {b off i : Nat} {t : TV} (h : RE w b off i t) :
  w.cell? ⟨b, off + i * 8, none⟩ = some (.bool t.c.t.s) ∧ w.cell? ⟨b, off + i * 8 + 1, none⟩ = some (.slice t.c.t.a t.c.t.n t.c.t.c) ∧ w.cell? ⟨b, off + i * 8 + 2, none⟩ = some (.bool t.c.l.s) ∧ w.cell? ⟨b, off + i * 8 + 3, none⟩ = some (.slice t.c.l.a t.c.l.n t.c.l.c) ∧
  w.cell? ⟨b, off + i * 8 + 4, none⟩ = some (.int .u16 t.m.x) ∧ w.cell? ⟨b, off + i * 8 + 5, none⟩ = some (.int .u16 t.m.y) ∧ w.cell? ⟨b, off + i * 8 + 6, none⟩ = some (.int .u16 t.m.z) ∧ w.cell? ⟨b, off + i * 8 + 7, none⟩ = some (.int .u16 t.m.t) :=
 ⟨h.cell 0 _ rfl, h.cell 1 _ rfl, h.cell 2 _ rfl, h.cell 3 _ rfl, h.cell 4 _ rfl, h.cell 5 _ rfl, h.cell 6 _ rfl, h.cell 7 _ rfl⟩
theorem RT.one {w : World} {a : Option Addr} {ts : List TV} (h : RT w a ts) (hn : ts ≠ []) : ∃ b off, a = some ⟨b, off, none⟩ ∧ ∀ i t, ts[i]? = some t → RE w b off i t := by
 obtain ⟨b, off, ha, hc⟩ := h.ex hn
 exact ⟨b, off, ha, fun i t hi => ⟨block_lt_of_cell (hc i t hi 0 _ rfl), hc i t hi⟩⟩
set_option maxRecDepth 100000 in
set_option maxHeartbeats 4000000 in
theorem same_term (t u : TV) (q : Rat) (w : World) (h1 : KF w t.c q) (h2 : KF w u.c q) (hm : t.m = u.m) (hq : LQ q 900000) : Calls Tryz.prog 96 #[TV.v t, TV.v u] w fun e w' => e = .returned (.bool true) ∧ Below w.heap.size w w' := by
 obtain ⟨V, hV⟩ : ∃ V, V = (w.alloc (.cells #[.bool t.c.t.s, .slice t.c.t.a t.c.t.n t.c.t.c, .bool t.c.l.s, .slice t.c.l.a t.c.l.n t.c.l.c, .int .u16 t.m.x, .int .u16 t.m.y, .int .u16 t.m.z, .int .u16 t.m.t] 50)).alloc (.cells #[.bool u.c.t.s, .slice u.c.t.a u.c.t.n u.c.t.c, .bool u.c.l.s, .slice u.c.l.a u.c.l.n u.c.l.c, .int .u16 u.m.x, .int .u16 u.m.y, .int .u16 u.m.z, .int .u16 u.m.t] 50) := ⟨_, rfl⟩
 have hbV : Below w.heap.size w V := by rw [hV]; exact ((Below.refl _ _).alloc (Nat.le_refl _) _).alloc (by go_size) _
 have B1 := Lib.hid (show Bxs V w.heap.size 50 [.bool t.c.t.s, .slice t.c.t.a t.c.t.n t.c.t.c, .bool t.c.l.s, .slice t.c.l.a t.c.l.n t.c.l.c, .int .u16 t.m.x, .int .u16 t.m.y, .int .u16 t.m.z, .int .u16 t.m.t] by rw [hV]; exact (Bxs.new w 50 [.bool t.c.t.s, .slice t.c.t.a t.c.t.n t.c.t.c, .bool t.c.l.s, .slice t.c.l.a t.c.l.n t.c.l.c, .int .u16 t.m.x, .int .u16 t.m.y, .int .u16 t.m.z, .int .u16 t.m.t]).alloc _)
 have B2 := Lib.hid (show Bxs V (w.heap.size + 1) 50 [.bool u.c.t.s, .slice u.c.t.a u.c.t.n u.c.t.c, .bool u.c.l.s, .slice u.c.l.a u.c.l.n u.c.l.c, .int .u16 u.m.x, .int .u16 u.m.y, .int .u16 u.m.z, .int .u16 u.m.t] by
  have h := Bxs.new (w.alloc (.cells #[.bool t.c.t.s, .slice t.c.t.a t.c.t.n t.c.t.c, .bool t.c.l.s, .slice t.c.l.a t.c.l.n t.c.l.c, .int .u16 t.m.x, .int .u16 t.m.y, .int .u16 t.m.z, .int .u16 t.m.t] 50)) 50 [.bool u.c.t.s, .slice u.c.t.a u.c.t.n u.c.t.c, .bool u.c.l.s, .slice u.c.l.a u.c.l.n u.c.l.c, .int .u16 u.m.x, .int .u16 u.m.y, .int .u16 u.m.z, .int .u16 u.m.t]
  rw [World.size_alloc] at h
  rw [hV]; exact h)
 have KG := Lib.hid hbV
 have SF := Lib.hid (qsameFr (h1.below hbV) (h1.len hq (Nat.le_refl _)) (h2.below hbV) (h2.len hq (Nat.le_refl _)) rfl)
 have HV := Lib.hid hV
 obtain ⟨tc, ⟨mx, my, mz, mt⟩⟩ := t
 obtain ⟨uc, um⟩ := u
 change (⟨mx, my, mz, mt⟩ : Mo) = um at hm
 subst hm
 change Calls Tryz.prog 96 #[.agg #[.bool tc.t.s, .slice tc.t.a tc.t.n tc.t.c, .bool tc.l.s, .slice tc.l.a tc.l.n tc.l.c, .int .u16 mx, .int .u16 my, .int .u16 mz, .int .u16 mt], .agg #[.bool uc.t.s, .slice uc.t.a uc.t.n uc.t.c, .bool uc.l.s, .slice uc.l.a uc.l.n uc.l.c, .int .u16 mx, .int .u16 my, .int .u16 mz, .int .u16 mt]] w _
 clear hV hbV h1 h2 hq
 go_enter Tryz.func96, Tryz.ntmps96
 go_upto_region 1 with (fail)
 rw [show (w.alloc (.cells #[.bool tc.t.s, .slice tc.t.a tc.t.n tc.t.c, .bool tc.l.s, .slice tc.l.a tc.l.n tc.l.c, .int .u16 mx, .int .u16 my, .int .u16 mz, .int .u16 mt] 50)).alloc (.cells #[.bool uc.t.s, .slice uc.t.a uc.t.n uc.t.c, .bool uc.l.s, .slice uc.l.a uc.l.n uc.l.c, .int .u16 mx, .int .u16 my, .int .u16 mz, .int .u16 mt] 50) = V from HV.out.symm]
 have c10 := B1.out.cell (i := 0) rfl
 have c11 := B1.out.cell (i := 1) rfl
 have c12 := B1.out.cell (i := 2) rfl
 have c13 := B1.out.cell (i := 3) rfl
 have c14 := B1.out.cell (i := 4) rfl
 have c15 := B1.out.cell (i := 5) rfl
 have c16 := B1.out.cell (i := 6) rfl
 have c17 := B1.out.cell (i := 7) rfl
 have c20 := B2.out.cell (i := 0) rfl
 have c21 := B2.out.cell (i := 1) rfl
 have c22 := B2.out.cell (i := 2) rfl
 have c23 := B2.out.cell (i := 3) rfl
 have c24 := B2.out.cell (i := 4) rfl
 have c25 := B2.out.cell (i := 5) rfl
 have c26 := B2.out.cell (i := 6) rfl
 have c27 := B2.out.cell (i := 7) rfl
 go_wp2_with fail
 with_reducible refine SF.out.mono ?_
 rintro e w1 ⟨rfl, hb⟩
 have KG := Lib.hid (KG.out.trans (hb.mono KG.out.size))
 have B1 := Lib.hid (B1.out.below hb B1.out.lt)
 have B2 := Lib.hid (B2.out.below hb B2.out.lt)
 clear hb SF c10 c11 c12 c13 c14 c15 c16 c17 c20 c21 c22 c23 c24 c25 c26 c27
 have c10 := B1.out.cell (i := 0) rfl
 have c11 := B1.out.cell (i := 1) rfl
 have c12 := B1.out.cell (i := 2) rfl
 have c13 := B1.out.cell (i := 3) rfl
 have c14 := B1.out.cell (i := 4) rfl
 have c15 := B1.out.cell (i := 5) rfl
 have c16 := B1.out.cell (i := 6) rfl
 have c17 := B1.out.cell (i := 7) rfl
 have c20 := B2.out.cell (i := 0) rfl
 have c21 := B2.out.cell (i := 1) rfl
 have c22 := B2.out.cell (i := 2) rfl
 have c23 := B2.out.cell (i := 3) rfl
 have c24 := B2.out.cell (i := 4) rfl
 have c25 := B2.out.cell (i := 5) rfl
 have c26 := B2.out.cell (i := 6) rfl
 have c27 := B2.out.cell (i := 7) rfl
 go_wp2_with fail
 go_ret
 exact ⟨rfl, KG.out⟩
set_option maxRecDepth 100000 in
set_option maxHeartbeats 16000000 in
theorem same_k (x y : PV) (P : List Tm) (w : World) (hx : KP w x P) (hy : KP w y P) (hp : ∀ t ∈ P, LQ t.2 900000) (hn : P.length ≤ 1000000) : Calls Tryz.prog 58 #[x.v, y.v] w fun e w' => e = .returned (.bool true) ∧ Below w.heap.size w w' := by
 have hxl := hx.len
 have hyl := hy.len
 obtain ⟨xa, xn, xc⟩ := x
 obtain ⟨ya, n, yc⟩ := y
 change xn = P.length at hxl
 change n = P.length at hyl
 obtain rfl : xn = n := hxl.trans hyl.symm
 obtain ⟨L1, g1, g2, g3, g4⟩ := hx.ex
 obtain ⟨L2, k3, k4, k5, k6⟩ := hy.ex
 have HP := Lib.hid hp; have HNN := Lib.hid (show xn ≤ 1000000 by rw [hyl]; exact hn)
 have R1 := Lib.hid g1; have R2 := Lib.hid k3; have F1 := Lib.hid g3; have F2 := Lib.hid k5; have T1 := Lib.hid g4; have T2 := Lib.hid k6
 have N1 := Lib.hid (show L1.length = xn from g2); have N2 := Lib.hid (show L2.length = xn from k4)
 change Calls Tryz.prog 58 #[.slice xa xn xc, .slice ya xn yc] w _
 clear hx hy hp hn hxl hyl g1 g2 g3 g4 k3 k4 k5 k6
 go_enter Tryz.func58, Tryz.ntmps58
 go_wp2_with fail
 go_loopw [5] (fun i wr => ∃ j : Nat, j ≤ xn ∧ i = .int .i64 j ∧ Below w.heap.size w wr) (fun i _ => xn - (intOf i).toNat)
 case atStart =>
  exact ⟨0, Nat.zero_le _, rfl, Below.refl _ _⟩
 case round =>
  obtain ⟨j, hj, rfl, hb0⟩ := hrel
  have HJ := Lib.hid hj; have KG := Lib.hid hb0
  clear hj hb0
  by_cases hjn : j < xn
  ·have HJN := Lib.hid hjn
   have h1l : j < L1.length := by rw [N1.out]; exact hjn
   have h2l : j < L2.length := by rw [N2.out]; exact hjn
   obtain ⟨pb, po, rfl, hc1⟩ := (R1.out.below KG.out).one (fun h => by rw [List.map_eq_nil_iff] at h; rw [h] at h1l; simp at h1l)
   obtain ⟨qb, qo, rfl, hc2⟩ := (R2.out.below KG.out).one (fun h => by rw [List.map_eq_nil_iff] at h; rw [h] at h2l; simp at h2l)
   obtain ⟨⟨t, q⟩, he1⟩ : ∃ e, L1[j]? = some e := ⟨_, List.getElem?_eq_getElem h1l⟩
   obtain ⟨⟨u, r⟩, he2⟩ : ∃ e, L2[j]? = some e := ⟨_, List.getElem?_eq_getElem h2l⟩
   have E1 := Lib.hid (hc1 j t (by rw [List.getElem?_map, he1]; rfl))
   have E2 := Lib.hid (hc2 j u (by rw [List.getElem?_map, he2]; rfl))
   have p1 : P[j]? = some (t.m, q) := by rw [← T1.out, List.getElem?_map, he1]; rfl
   have p2 : P[j]? = some (u.m, r) := by rw [← T2.out, List.getElem?_map, he2]; rfl
   have pe : (t.m, q) = (u.m, r) := Option.some.inj (p1.symm.trans p2)
   have HMM := Lib.hid (show t.m = u.m from congrArg Prod.fst pe)
   obtain rfl : q = r := congrArg Prod.snd pe
   have NT := Lib.hid (show KF wr t.c q from (F1.out _ (List.mem_of_getElem? he1)).below KG.out)
   have NU := Lib.hid (show KF wr u.c q from (F2.out _ (List.mem_of_getElem? he2)).below KG.out)
   have LQq := Lib.hid (HP.out _ (List.mem_of_getElem? p1))
   have ek : IntKind.i64.wrap ((j : Int) + 1) = (j : Int) + 1 := IntWalk.i64_in _ (by have := HJN.out; have := HNN.out; omega)
   clear hc1 hc2 he1 he2 p1 p2 pe h1l h2l
   go_upto_region 6 with (fail)
   refine Go.FS.wp_region_fresh 9 [] (Go.FS.spOf [(8, Go.FS.Sp.know (.bool true))])
    (fun w' => Below wr.heap.size wr w') (by kernel_rfl) (by kernel_rfl) (by kernel_rfl)
    (Go.FS.spOf_cons (Go.FS.Sp.know_keeps _ _) (Go.FS.spOf_nil)) (fun _ _ h hb => h.trans (hb.mono h.size)) ((Below.refl _ _).drew) ?_
   simp only [List.append_eq, List.cons_append, List.nil_append, List.take_succ_cons, List.take_zero, List.drop_succ_cons, List.drop_zero]
   iterate 3
    refine Go.FS.wpF_reads rfl rfl rfl ?_ (fun w' hw' => ?_) ?_
    rotate_left
    ·have hb' := hw'.world
     skip
     clear hw'
     go_simp
     try rfl
    conv => arg 10; simp only [Act.put, Go.q0, Go.q1, Go.q2]
   refine Go.FS.wpF_reads rfl rfl rfl ?_ (fun w' hw' => ?_) ?_
   rotate_left
   ·have hb' := hw'.world
    obtain ⟨hs0, hs1, hs2, hs3, hs4, hs5, hs6, hs7⟩ := (E1.out.below hb').eight
    clear hw'
    go_simp
    try rfl
   conv => arg 10; simp only [Act.put, Go.q0, Go.q1, Go.q2]
   iterate 3
    refine Go.FS.wpF_reads rfl rfl rfl ?_ (fun w' hw' => ?_) ?_
    rotate_left
    ·have hb' := hw'.world
     skip
     clear hw'
     go_simp
     try rfl
    conv => arg 10; simp only [Act.put, Go.q0, Go.q1, Go.q2]
   refine Go.FS.wpF_reads rfl rfl rfl ?_ (fun w' hw' => ?_) ?_
   rotate_left
   ·have hb' := hw'.world
    obtain ⟨hs0, hs1, hs2, hs3, hs4, hs5, hs6, hs7⟩ := (E2.out.below hb').eight
    clear hw'
    go_simp
    try rfl
   conv => arg 10; simp only [Act.put, Go.q0, Go.q1, Go.q2]
   refine Go.FS.wpF_spec rfl rfl rfl (fun w' hw' => ?_) ?_
   ·have hb' := hw'.world
    refine Go.FS.gives_of (Go.FS.PK (.bool true)) ?_ (fun _ _ h => h.post)
    go_simp
    have CT := same_term t u q w' (NT.out.below hb') (NU.out.below hb') HMM.out LQq.out
    refine CT.mono ?_
    rintro e w'' ⟨rfl, hb⟩
    exact ⟨_, rfl, rfl, hb⟩
   rintro _ rfl
   conv => arg 10; simp only [Act.put, Go.q0, Go.q1, Go.q2]
   refine Go.FS.wpF_nil (fun w101 hb hF => ?_)
   clear hF
   have KG := Lib.hid (KG.out.trans (hb.mono KG.out.size))
   clear hb
   go_wp2_with fail
   go_roundw
   case rel =>
    exact ⟨j + 1, by have := HJN.out; omega, rfl, KG.out⟩
   case measure => simp [intOf]; have := HJN.out; omega
  ·have hge : ¬ ((j : Int) < (xn : Int)) := by omega
   clear hjn
   go_wp2_with fail
   go_ret
   exact ⟨rfl, KG.out⟩
def IR (w : World) (e : Ending) (w' : World) : Prop := ∃ z : Int, e = .returned (.int .i64 z) ∧ Below w.heap.size w w'
theorem IR.is {w w' : World} (z : Int) (h : Below w.heap.size w w') : IR w (.returned (.int .i64 z)) w' := ⟨z, rfl, h⟩
def BR (w : World) (Φ : Prop) (e : Ending) (w' : World) : Prop := ∃ b : Bool, e = .returned (.bool b) ∧ (b = false → Φ) ∧ Below w.heap.size w w'
theorem BR.yes {w w' : World} {Φ : Prop} (h : Below w.heap.size w w') : BR w Φ (.returned (.bool true)) w' := ⟨true, rfl, nofun, h⟩
theorem BR.no {w w' : World} {Φ : Prop} (h : Below w.heap.size w w') (hp : Φ) : BR w Φ (.returned (.bool false)) w' := ⟨false, rfl, fun _ => hp, h⟩
set_option maxRecDepth 100000 in
set_option maxHeartbeats 4000000 in
theorem limbs_size (a : Option Addr) (n c : Nat) (w : World) : Calls Tryz.prog 84 #[.slice a n c] w fun e w' => IR w e w' := by
 go_enter Tryz.func84, Tryz.ntmps84
 go_wp2_with fail
 go_ret
 exact IR.is _ (Below.refl _ _)
set_option maxRecDepth 100000 in
set_option maxHeartbeats 4000000 in
theorem num_size (s : Bool) (a : Option Addr) (n c : Nat) (w : World) : Calls Tryz.prog 39 #[.agg #[.bool s, .slice a n c]] w fun e w' => IR w e w' := by
 obtain ⟨V, hV⟩ : ∃ V, V = w.alloc (.cells #[.bool s, .slice a n c] 26) := ⟨_, rfl⟩
 have hbV : Below w.heap.size w V := by rw [hV]; exact (Below.refl _ _).alloc (Nat.le_refl _) _
 have B1 := Lib.hid (show Bxs V w.heap.size 26 [.bool s, .slice a n c] by rw [hV]; exact Bxs.new w 26 [.bool s, .slice a n c])
 have KG := Lib.hid hbV
 have HV := Lib.hid hV
 clear hV hbV
 go_enter Tryz.func39, Tryz.ntmps39
 go_upto_region 1 with (fail)
 rw [show w.alloc (.cells #[.bool s, .slice a n c] 26) = V from HV.out.symm]
 have c0 := B1.out.cell (i := 0) rfl
 have c1 := B1.out.cell (i := 1) rfl
 go_wp2_with fail
 with_reducible refine (limbs_size _ _ _ _).mono ?_
 rintro e w1 ⟨zw1, rfl, hb⟩
 have KG := Lib.hid (KG.out.trans (hb.mono KG.out.size))
 have B1 := Lib.hid (B1.out.below hb B1.out.lt)
 clear hb c0 c1
 go_wp2_with fail
 go_ret
 exact IR.is _ KG.out
set_option maxRecDepth 100000 in
set_option maxHeartbeats 4000000 in
theorem frac_size (x : FV) (w : World) : Calls Tryz.prog 10 #[x.v] w fun e w' => IR w e w' := by
 obtain ⟨V, hV⟩ : ∃ V, V = w.alloc (.cells #[.bool x.t.s, .slice x.t.a x.t.n x.t.c, .bool x.l.s, .slice x.l.a x.l.n x.l.c] 28) := ⟨_, rfl⟩
 have hbV : Below w.heap.size w V := by rw [hV]; exact (Below.refl _ _).alloc (Nat.le_refl _) _
 have B1 := Lib.hid (show Bxs V w.heap.size 28 [.bool x.t.s, .slice x.t.a x.t.n x.t.c, .bool x.l.s, .slice x.l.a x.l.n x.l.c] by rw [hV]; exact Bxs.new w 28 [.bool x.t.s, .slice x.t.a x.t.n x.t.c, .bool x.l.s, .slice x.l.a x.l.n x.l.c])
 have KG := Lib.hid hbV
 have HV := Lib.hid hV
 clear hV hbV
 change Calls Tryz.prog 10 #[.agg #[.bool x.t.s, .slice x.t.a x.t.n x.t.c, .bool x.l.s, .slice x.l.a x.l.n x.l.c]] w _
 go_enter Tryz.func10, Tryz.ntmps10
 go_upto_region 1 with (fail)
 rw [show w.alloc (.cells #[.bool x.t.s, .slice x.t.a x.t.n x.t.c, .bool x.l.s, .slice x.l.a x.l.n x.l.c] 28) = V from HV.out.symm]
 have c0 := B1.out.cell (i := 0) rfl
 have c1 := B1.out.cell (i := 1) rfl
 have c2 := B1.out.cell (i := 2) rfl
 have c3 := B1.out.cell (i := 3) rfl
 go_wp2_with fail
 with_reducible refine (num_size _ _ _ _ _).mono ?_
 rintro e w1 ⟨zw1, rfl, hb⟩
 have KG := Lib.hid (KG.out.trans (hb.mono KG.out.size))
 have B1 := Lib.hid (B1.out.below hb B1.out.lt)
 clear hb c0 c1 c2 c3
 by_cases h : wrap64 (1 + zw1) ≤ 1048576
 ·have c0 := B1.out.cell (i := 0) rfl
  have c1 := B1.out.cell (i := 1) rfl
  have c2 := B1.out.cell (i := 2) rfl
  have c3 := B1.out.cell (i := 3) rfl
  go_wp2_with fail
  with_reducible refine (num_size _ _ _ _ _).mono ?_
  rintro e w2 ⟨z2, rfl, hb⟩
  have KG := Lib.hid (KG.out.trans (hb.mono KG.out.size))
  clear hb c0 c1 c2 c3
  go_wp2_with fail
  go_ret
  exact IR.is _ KG.out
 ·have h2 : 1048576 < wrap64 (1 + zw1) := by omega
  go_wp2_with fail
  go_ret
  exact IR.is _ KG.out
set_option maxRecDepth 100000 in
set_option maxHeartbeats 4000000 in
theorem term_size (t : TV) (w : World) : Calls Tryz.prog 83 #[TV.v t] w fun e w' => IR w e w' := by
 obtain ⟨V, hV⟩ : ∃ V, V = w.alloc (.cells #[.bool t.c.t.s, .slice t.c.t.a t.c.t.n t.c.t.c, .bool t.c.l.s, .slice t.c.l.a t.c.l.n t.c.l.c, .int .u16 t.m.x, .int .u16 t.m.y, .int .u16 t.m.z, .int .u16 t.m.t] 50) := ⟨_, rfl⟩
 have hbV : Below w.heap.size w V := by rw [hV]; exact (Below.refl _ _).alloc (Nat.le_refl _) _
 have B1 := Lib.hid (show Bxs V w.heap.size 50 [.bool t.c.t.s, .slice t.c.t.a t.c.t.n t.c.t.c, .bool t.c.l.s, .slice t.c.l.a t.c.l.n t.c.l.c, .int .u16 t.m.x, .int .u16 t.m.y, .int .u16 t.m.z, .int .u16 t.m.t] by rw [hV]; exact Bxs.new w 50 [.bool t.c.t.s, .slice t.c.t.a t.c.t.n t.c.t.c, .bool t.c.l.s, .slice t.c.l.a t.c.l.n t.c.l.c, .int .u16 t.m.x, .int .u16 t.m.y, .int .u16 t.m.z, .int .u16 t.m.t])
 have KG := Lib.hid hbV
 have HV := Lib.hid hV
 clear hV hbV
 change Calls Tryz.prog 83 #[.agg #[.bool t.c.t.s, .slice t.c.t.a t.c.t.n t.c.t.c, .bool t.c.l.s, .slice t.c.l.a t.c.l.n t.c.l.c, .int .u16 t.m.x, .int .u16 t.m.y, .int .u16 t.m.z, .int .u16 t.m.t]] w _
 go_enter Tryz.func83, Tryz.ntmps83
 go_upto_region 1 with (fail)
 rw [show w.alloc (.cells #[.bool t.c.t.s, .slice t.c.t.a t.c.t.n t.c.t.c, .bool t.c.l.s, .slice t.c.l.a t.c.l.n t.c.l.c, .int .u16 t.m.x, .int .u16 t.m.y, .int .u16 t.m.z, .int .u16 t.m.t] 50) = V from HV.out.symm]
 have c0 := B1.out.cell (i := 0) rfl
 have c1 := B1.out.cell (i := 1) rfl
 have c2 := B1.out.cell (i := 2) rfl
 have c3 := B1.out.cell (i := 3) rfl
 have c4 := B1.out.cell (i := 4) rfl
 have c5 := B1.out.cell (i := 5) rfl
 have c6 := B1.out.cell (i := 6) rfl
 have c7 := B1.out.cell (i := 7) rfl
 go_wp2_with fail
 with_reducible refine (frac_size t.c _).mono ?_
 rintro e w1 ⟨zw1, rfl, hb⟩
 have KG := Lib.hid (KG.out.trans (hb.mono KG.out.size))
 have B1 := Lib.hid (B1.out.below hb B1.out.lt)
 clear hb c0 c1 c2 c3 c4 c5 c6 c7
 go_wp2_with fail
 go_ret
 exact IR.is _ KG.out
set_option maxRecDepth 100000 in
set_option maxHeartbeats 16000000 in
theorem poly_size (x : PV) (ts : List TV) (w : World) (hr : RT w x.a ts) (hl : ts.length = x.n) (hn : x.n ≤ 1000000000) : Calls Tryz.prog 38 #[x.v] w fun e w' => IR w e w' := by
 obtain ⟨xa, xn, xc⟩ := x
 have HR := Lib.hid hr; have HL := Lib.hid (show ts.length = xn from hl); have HN := Lib.hid (show xn ≤ 1000000000 from hn)
 change Calls Tryz.prog 38 #[.slice xa xn xc] w _
 clear hr hl hn
 go_enter Tryz.func38, Tryz.ntmps38
 go_wp2_with fail
 go_loopw [3, 4] (fun s i wr => ∃ (j : Nat) (z : Int), j ≤ xn ∧ i = .int .i64 j ∧ s = .int .i64 z ∧ Below w.heap.size w wr) (fun _ i _ => xn - (intOf i).toNat)
 case atStart =>
  exact ⟨0, _, Nat.zero_le _, rfl, rfl, Below.refl _ _⟩
 case round =>
  obtain ⟨j, z, hj, rfl, rfl, hb0⟩ := hrel
  have HJ := Lib.hid hj; have KG := Lib.hid hb0
  clear hj hb0
  by_cases hjn : j < xn
  ·by_cases hz : z ≤ 1048576
   ·have HJN := Lib.hid hjn
    have hjl : j < ts.length := by rw [HL.out]; exact hjn
    obtain ⟨pb, po, rfl, hc⟩ := (HR.out.below KG.out).one (fun h => by rw [h] at hjl; simp at hjl)
    obtain ⟨t, he⟩ : ∃ t, ts[j]? = some t := ⟨_, List.getElem?_eq_getElem hjl⟩
    obtain ⟨c0, c1, c2, c3, c4, c5, c6, c7⟩ := (hc j t he).eight
    have ek : IntKind.i64.wrap ((j : Int) + 1) = (j : Int) + 1 := IntWalk.i64_in _ (by have := HJN.out; have := HN.out; omega)
    clear hc he hjl
    go_wp2_with fail
    with_reducible refine (term_size t _).mono ?_
    rintro e w1 ⟨z1, rfl, hb⟩
    have KG := Lib.hid (KG.out.trans (hb.mono KG.out.size))
    clear hb c0 c1 c2 c3 c4 c5 c6 c7
    go_wp2_with fail
    go_roundw
    case rel =>
     exact ⟨j + 1, _, by have := HJN.out; omega, rfl, rfl, KG.out⟩
    case measure => simp [intOf]; have := HJN.out; omega
   ·have hz2 : 1048576 < z := by omega
    go_wp2_with fail
    go_ret
    exact IR.is _ KG.out
  ·have hge : ¬ ((j : Int) < (xn : Int)) := by omega
   clear hjn
   go_wp2_with fail
   go_ret
   exact IR.is _ KG.out
def NotGreat (m : Nat) (ts : List TV) : Prop := ts.length ≤ m ∧ ∀ t ∈ ts, t.c.t.n ≤ 4 ∧ t.c.l.n ≤ 1
def NoneGreat (m : Nat) (Xs : List (PV × List TV)) : Prop := ∀ e ∈ Xs, NotGreat m e.2
set_option maxRecDepth 100000 in
set_option maxHeartbeats 16000000 in
theorem pgreat_any (g m k : Nat) (Xs : List (PV × List TV)) (w : World) (hk : Xs.length = k) (hc : ∀ i e, Xs[i]? = some e → w.cell? ⟨g, i, none⟩ = some e.1.v) (hr : ∀ e ∈ Xs, RT w e.1.a e.2 ∧ e.2.length = e.1.n)
  (hn : Xs.length ≤ 1000) (hm : m ≤ 1000) :
  Calls Tryz.prog 9 #[.int .i64 m, .slice (some ⟨g, 0, none⟩) k k] w (BR w (NoneGreat m Xs)) := by
 have HK := Lib.hid hk; have HC := Lib.hid hc; have HR := Lib.hid hr; have HN := Lib.hid hn; have HM := Lib.hid hm
 clear hk hc hr hn hm
 go_enter Tryz.func9, Tryz.ntmps9
 go_wp2_with fail
 go_loopw [5] (fun i wr => ∃ j : Nat, j ≤ k ∧ i = .int .i64 j ∧ (∀ i e, Xs[i]? = some e → i < j → NotGreat m e.2) ∧ Below w.heap.size w wr) (fun i _ => k - (intOf i).toNat)
 case atStart =>
  exact ⟨0, Nat.zero_le _, rfl, fun i e _ h => absurd h (Nat.not_lt_zero _), Below.refl _ _⟩
 case round =>
  obtain ⟨j, hj, rfl, hg, hb0⟩ := hrel
  have HJ := Lib.hid hj; have HG := Lib.hid hg; have KG := Lib.hid hb0
  clear hj hg hb0
  by_cases hjn : j < k
  ·have HJN := Lib.hid hjn
   obtain ⟨⟨⟨xa, xn, xc⟩, ts⟩, he⟩ : ∃ e, Xs[j]? = some e := ⟨_, List.getElem?_eq_getElem (by rw [HK.out]; exact hjn)⟩
   have HE := Lib.hid he
   have CG := Lib.hid (show ∀ w2, Below w.heap.size w w2 → w2.cell? ⟨g, j, none⟩ = some (.slice xa xn xc) from fun (w2 : World) (h : Below w.heap.size w w2) => (h.cell (p := ⟨g, j, none⟩) (block_lt_of_cell (HC.out j _ he))).trans (HC.out j _ he))
   have c0 := CG.out _ KG.out
   obtain ⟨r1, r2⟩ := HR.out _ (List.mem_of_getElem? he)
   have RX := Lib.hid r1; have LX := Lib.hid (show ts.length = xn from r2)
   have ek : IntKind.i64.wrap ((j : Int) + 1) = (j : Int) + 1 := IntWalk.i64_in _ (by have := HJN.out; have := HK.out; have := HN.out; omega)
   have em : IntKind.i64.wrap (40 * (m : Int)) = 40 * (m : Int) := IntWalk.i64_in _ (by have := HM.out; omega)
   clear he r1 r2
   by_cases hxm : xn ≤ m
   ·have HXM := Lib.hid hxm
    have NX := Lib.hid (show xn ≤ 1000000000 by have := HM.out; omega)
    have h1 : ¬ ((xn : Int) > (m : Int)) := by omega
    have h2 : ¬ ((m : Int) < (xn : Int)) := by omega
    have PS := Lib.hid (poly_size ⟨xa, xn, xc⟩ ts wr (RX.out.below KG.out) LX.out NX.out)
    clear hxm
    go_wp2_with fail
    with_reducible refine PS.out.mono ?_
    rintro e w1 ⟨z, rfl, hb⟩
    have KG := Lib.hid (KG.out.trans (hb.mono KG.out.size))
    clear hb PS c0
    by_cases hz : z > 40 * (m : Int)
    ·have hz2 : 40 * (m : Int) < z := hz
     go_wp2_with fail
     go_ret
     exact BR.yes KG.out
    ·have hz2 : ¬ (40 * (m : Int) < z) := hz
     go_wp2_with fail
     go_loopw [6] (fun i wr => ∃ l : Nat, l ≤ xn ∧ i = .int .i64 l ∧ (∀ i t, ts[i]? = some t → i < l → t.c.t.n ≤ 4 ∧ t.c.l.n ≤ 1) ∧ Below w.heap.size w wr) (fun i _ => xn - (intOf i).toNat)
     case atStart =>
      exact ⟨0, Nat.zero_le _, rfl, fun i e _ h => absurd h (Nat.not_lt_zero _), KG.out⟩
     case round =>
      obtain ⟨l, hl, rfl, hg2, hb0⟩ := hrel
      have HL := Lib.hid hl; have HG2 := Lib.hid hg2; have KG := Lib.hid hb0
      clear hl hg2 hb0
      have c0 := CG.out _ KG.out
      by_cases hln : l < xn
      ·have HLN := Lib.hid hln
       have hll : l < ts.length := by rw [LX.out]; exact hln
       obtain ⟨pb, po, rfl, hc⟩ := (RX.out.below KG.out).one (fun h => by rw [h] at hll; simp at hll)
       obtain ⟨t, ht⟩ : ∃ t, ts[l]? = some t := ⟨_, List.getElem?_eq_getElem hll⟩
       obtain ⟨d0, d1, d2, d3, d4, d5, d6, d7⟩ := (hc l t ht).eight
       have HT := Lib.hid ht
       have el : IntKind.i64.wrap ((l : Int) + 1) = (l : Int) + 1 := IntWalk.i64_in _ (by have := HLN.out; have := NX.out; omega)
       clear hc ht hll
       by_cases h4 : t.c.t.n ≤ 4
       ·have g1 : ¬ ((t.c.t.n : Int) > 4) := by omega
        have g2 : ¬ ((4 : Int) < (t.c.t.n : Int)) := by omega
        by_cases h5 : t.c.l.n ≤ 1
        ·have g3 : ¬ ((t.c.l.n : Int) > 1) := by omega
         have g4 : ¬ ((1 : Int) < (t.c.l.n : Int)) := by omega
         have H45 := Lib.hid (show t.c.t.n ≤ 4 ∧ t.c.l.n ≤ 1 from ⟨h4, h5⟩)
         clear h4 h5
         go_wp2_with fail
         go_roundw
         case rel =>
          refine ⟨l + 1, by have := HLN.out; omega, rfl, fun i t' h1 h2 => ?_, KG.out⟩
          by_cases h3 : i < l
          ·exact HG2.out i t' h1 h3
          ·obtain rfl : i = l := by omega
           rw [HT.out] at h1
           obtain rfl := Option.some.inj h1
           exact H45.out
         case measure => simp [intOf]; have := HLN.out; omega
        ·have g3 : (t.c.l.n : Int) > 1 := by omega
         have g4 : (1 : Int) < (t.c.l.n : Int) := by omega
         clear h4 h5
         go_wp2_with fail
         go_ret
         exact BR.yes KG.out
       ·have g1 : (t.c.t.n : Int) > 4 := by omega
        have g2 : (4 : Int) < (t.c.t.n : Int) := by omega
        clear h4
        go_wp2_with fail
        go_ret
        exact BR.yes KG.out
      ·have hge : ¬ ((l : Int) < (xn : Int)) := by omega
       have HLE := Lib.hid (show l = xn by have := HL.out; omega)
       clear hln
       go_wp2_with fail
       go_roundw
       case rel =>
        refine ⟨j + 1, by have := HJN.out; omega, rfl, fun i e' h1 h2 => ?_, KG.out⟩
        by_cases h3 : i < j
        ·exact HG.out i e' h1 h3
        ·obtain rfl : i = j := by omega
         rw [HE.out] at h1
         obtain rfl := Option.some.inj h1
         refine ⟨by have h5 := LX.out; have h6 := HXM.out; show ts.length ≤ m; omega, fun t ht => ?_⟩
         obtain ⟨i2, h7⟩ := List.mem_iff_getElem?.1 (show t ∈ ts from ht)
         exact HG2.out i2 t h7 (by have h8 := (List.getElem?_eq_some_iff.1 h7).1; have h5 := LX.out; have h9 := HLE.out; omega)
       case measure => simp [intOf]; have := HJN.out; omega
   ·have h1 : (xn : Int) > (m : Int) := by omega
    have h2 : (m : Int) < (xn : Int) := by omega
    clear hxm
    go_wp2_with fail
    go_ret
    exact BR.yes KG.out
  ·have hge : ¬ ((j : Int) < (k : Int)) := by omega
   have HJE := Lib.hid (show j = k by have := HJ.out; omega)
   clear hjn
   go_wp2_with fail
   go_ret
   refine BR.no KG.out fun e he => ?_
   obtain ⟨i, h⟩ := List.mem_iff_getElem?.1 he
   exact HG.out i e h (by have h8 := (List.getElem?_eq_some_iff.1 h).1; have h9 := HJE.out; have := HK.out; omega)
set_option maxRecDepth 100000 in
set_option maxHeartbeats 16000000 in
theorem tall_any (x : PV) (ts : List TV) (w : World) (hr : RT w x.a ts) (hl : ts.length = x.n) (hn : x.n ≤ 1000000000) :
  Calls Tryz.prog 27 #[x.v] w (BR w (∀ t ∈ ts, t.m.le 12)) := by
 obtain ⟨xa, xn, xc⟩ := x
 have RX := Lib.hid hr; have LX := Lib.hid (show ts.length = xn from hl); have NX := Lib.hid (show xn ≤ 1000000000 from hn)
 change Calls Tryz.prog 27 #[.slice xa xn xc] w _
 clear hr hl hn
 go_enter Tryz.func27, Tryz.ntmps27
 go_wp2_with fail
 go_loopw [3] (fun i wr => ∃ j : Nat, j ≤ xn ∧ i = .int .i64 j ∧ (∀ i t, ts[i]? = some t → i < j → t.m.le 12) ∧ Below w.heap.size w wr) (fun i _ => xn - (intOf i).toNat)
 case atStart =>
  exact ⟨0, Nat.zero_le _, rfl, fun i e _ h => absurd h (Nat.not_lt_zero _), Below.refl _ _⟩
 case round =>
  obtain ⟨j, hj, rfl, hg, hb0⟩ := hrel
  have HJ := Lib.hid hj; have HG := Lib.hid hg; have KG := Lib.hid hb0
  clear hj hg hb0
  by_cases hjn : j < xn
  ·have HJN := Lib.hid hjn
   have hll : j < ts.length := by rw [LX.out]; exact hjn
   obtain ⟨pb, po, rfl, hc⟩ := (RX.out.below KG.out).one (fun h => by rw [h] at hll; simp at hll)
   obtain ⟨t, ht⟩ : ∃ t, ts[j]? = some t := ⟨_, List.getElem?_eq_getElem hll⟩
   have RE1 := Lib.hid (hc j t ht)
   have HT := Lib.hid ht
   have ek : IntKind.i64.wrap ((j : Int) + 1) = (j : Int) + 1 := IntWalk.i64_in _ (by have := HJN.out; have := NX.out; omega)
   obtain ⟨W0, hW0⟩ : ∃ W, W = wr := ⟨_, rfl⟩
   have KW := Lib.hid (show Below W0.heap.size W0 wr by rw [hW0]; exact Below.refl _ _)
   have KG0 := Lib.hid (show Below w.heap.size w W0 by rw [hW0]; exact KG.out)
   rw [← hW0] at RE1
   clear hc ht hll hW0
   go_wp2_with fail
   go_loopw [4] (fun i wr => ∃ l : Nat, l ≤ 4 ∧ i = .int .i64 l ∧ (∀ i, i < l → t.m.at i ≤ 12) ∧ Below W0.heap.size W0 wr) (fun i _ => 4 - (intOf i).toNat)
   case atStart =>
    exact ⟨0, Nat.zero_le _, rfl, fun i h => absurd h (Nat.not_lt_zero _), KW.out⟩
   case round =>
    obtain ⟨l, hl, rfl, hg2, hb0⟩ := hrel
    have HG2 := Lib.hid hg2; have KW := Lib.hid hb0
    have KG := Lib.hid (KG0.out.trans (hb0.mono KG0.out.size))
    obtain ⟨d0, d1, d2, d3, d4, d5, d6, d7⟩ := (RE1.out.below hb0).eight
    clear hg2 hb0
    by_cases hl4 : l < 4
    ·have hl5 : l = 0 ∨ l = 1 ∨ l = 2 ∨ l = 3 := by omega
     clear hl hl4
     rcases hl5 with rfl | rfl | rfl | rfl
     ·by_cases hv : t.m.x ≤ 12
      ·have g1 : ¬ ((t.m.x : Int) > 12) := by omega
       have g2 : ¬ ((12 : Int) < (t.m.x : Int)) := by omega
       have HV := Lib.hid hv
       clear hv
       go_wp2_with fail
       go_roundw
       case rel =>
        refine ⟨0 + 1, by omega, rfl, fun i hi => ?_, KW.out⟩
        by_cases h3 : i < 0
        ·exact HG2.out i h3
        ·obtain rfl : i = 0 := by omega
         exact HV.out
       case measure => simp [intOf]
      ·have g1 : (t.m.x : Int) > 12 := by omega
       have g2 : (12 : Int) < (t.m.x : Int) := by omega
       clear hv
       go_wp2_with fail
       go_ret
       exact BR.yes KG.out
     ·by_cases hv : t.m.y ≤ 12
      ·have g1 : ¬ ((t.m.y : Int) > 12) := by omega
       have g2 : ¬ ((12 : Int) < (t.m.y : Int)) := by omega
       have HV := Lib.hid hv
       clear hv
       go_wp2_with fail
       go_roundw
       case rel =>
        refine ⟨1 + 1, by omega, rfl, fun i hi => ?_, KW.out⟩
        by_cases h3 : i < 1
        ·exact HG2.out i h3
        ·obtain rfl : i = 1 := by omega
         exact HV.out
       case measure => simp [intOf]
      ·have g1 : (t.m.y : Int) > 12 := by omega
       have g2 : (12 : Int) < (t.m.y : Int) := by omega
       clear hv
       go_wp2_with fail
       go_ret
       exact BR.yes KG.out
     ·by_cases hv : t.m.z ≤ 12
      ·have g1 : ¬ ((t.m.z : Int) > 12) := by omega
       have g2 : ¬ ((12 : Int) < (t.m.z : Int)) := by omega
       have HV := Lib.hid hv
       clear hv
       go_wp2_with fail
       go_roundw
       case rel =>
        refine ⟨2 + 1, by omega, rfl, fun i hi => ?_, KW.out⟩
        by_cases h3 : i < 2
        ·exact HG2.out i h3
        ·obtain rfl : i = 2 := by omega
         exact HV.out
       case measure => simp [intOf]
      ·have g1 : (t.m.z : Int) > 12 := by omega
       have g2 : (12 : Int) < (t.m.z : Int) := by omega
       clear hv
       go_wp2_with fail
       go_ret
       exact BR.yes KG.out
     ·by_cases hv : t.m.t ≤ 12
      ·have g1 : ¬ ((t.m.t : Int) > 12) := by omega
       have g2 : ¬ ((12 : Int) < (t.m.t : Int)) := by omega
       have HV := Lib.hid hv
       clear hv
       go_wp2_with fail
       go_roundw
       case rel =>
        refine ⟨3 + 1, by omega, rfl, fun i hi => ?_, KW.out⟩
        by_cases h3 : i < 3
        ·exact HG2.out i h3
        ·obtain rfl : i = 3 := by omega
         exact HV.out
       case measure => simp [intOf]
      ·have g1 : (t.m.t : Int) > 12 := by omega
       have g2 : (12 : Int) < (t.m.t : Int) := by omega
       clear hv
       go_wp2_with fail
       go_ret
       exact BR.yes KG.out
    ·obtain rfl : l = 4 := by omega
     clear hl hl4
     go_wp2_with fail
     go_roundw
     case rel =>
      refine ⟨j + 1, by have := HJN.out; omega, rfl, fun i t' h1 h2 => ?_, KG.out⟩
      by_cases h3 : i < j
      ·exact HG.out i t' h1 h3
      ·obtain rfl : i = j := by omega
       rw [HT.out] at h1
       obtain rfl := Option.some.inj h1
       exact ⟨HG2.out 0 (by omega), HG2.out 1 (by omega), HG2.out 2 (by omega), HG2.out 3 (by omega)⟩
     case measure => simp [intOf]; have := HJN.out; omega
  ·have hge : ¬ ((j : Int) < (xn : Int)) := by omega
   have HJE := Lib.hid (show j = xn by have := HJ.out; omega)
   clear hjn
   go_wp2_with fail
   go_ret
   refine BR.no KG.out fun t ht => ?_
   obtain ⟨i, h⟩ := List.mem_iff_getElem?.1 ht
   exact HG.out i t h (by have h8 := (List.getElem?_eq_some_iff.1 h).1; have h5 := LX.out; have h9 := HJE.out; omega)
def letM (i : Nat) : Mo := if i = 0 then ⟨1, 0, 0, 0⟩ else if i = 1 then ⟨0, 1, 0, 0⟩ else if i = 2 then ⟨0, 0, 1, 0⟩ else ⟨0, 0, 0, 1⟩
theorem letM_small (i : Nat) : (letM i).Small := by
 unfold letM
 split
 ·exact ⟨by decide, by decide, by decide, by decide⟩
 ·split
  ·exact ⟨by decide, by decide, by decide, by decide⟩
  ·split <;> exact ⟨by decide, by decide, by decide, by decide⟩
set_option maxRecDepth 100000 in
set_option maxHeartbeats 4000000 in
theorem only_0 (w : World) : Calls Tryz.prog 81 #[.int .i64 0] w fun e w' => e = .returned (Mo.v (letM 0)) ∧ Below w.heap.size w w' := by
 obtain ⟨V, hV⟩ : ∃ V, V = w.alloc (.cells #[.int .u16 0, .int .u16 0, .int .u16 0, .int .u16 0] 48) := ⟨_, rfl⟩
 have B1 := Lib.hid (show Bxs V w.heap.size 48 [.int .u16 0, .int .u16 0, .int .u16 0, .int .u16 0] by rw [hV]; exact Bxs.new w 48 [.int .u16 0, .int .u16 0, .int .u16 0, .int .u16 0])
 have hbV : Below w.heap.size w V := by rw [hV]; exact (Below.refl _ _).alloc (Nat.le_refl _) _
 have KG := Lib.hid hbV
 have HV := Lib.hid hV
 clear hV hbV
 go_enter Tryz.func81, Tryz.ntmps81
 go_upto_region 1 with (fail)
 rw [show w.alloc (.cells #[.int .u16 0, .int .u16 0, .int .u16 0, .int .u16 0] 48) = V from HV.out.symm]
 have c0 := B1.out.cell (i := 0) rfl
 have c1 := B1.out.cell (i := 1) rfl
 have c2 := B1.out.cell (i := 2) rfl
 have c3 := B1.out.cell (i := 3) rfl
 have cf := B1.out.fz
 have cl := B1.out.lt
 go_upto_region 2 with (fail)
 clear c0 c1 c2 c3 cf cl
 obtain ⟨U, hU⟩ : ∃ U, U = V.setCell ⟨w.heap.size, 0, none⟩ (.int .u16 1) := ⟨_, rfl⟩
 have B2 := Lib.hid (show Bxs U w.heap.size 48 [.int .u16 1, .int .u16 0, .int .u16 0, .int .u16 0] by rw [hU]; exact B1.out.put 0 _)
 have KG := Lib.hid (show Below w.heap.size w U by rw [hU]; exact KG.out.setCell (Nat.le_refl _) _)
 rw [← hU]
 clear hU
 have c0 := B2.out.cell (i := 0) rfl
 have c1 := B2.out.cell (i := 1) rfl
 have c2 := B2.out.cell (i := 2) rfl
 have c3 := B2.out.cell (i := 3) rfl
 have cf := B2.out.fz
 have cl := B2.out.lt
 go_wp2_with fail
 refine bodyPost_ret (results_cell rfl _ _ _ _ _ _ _ rfl ((((B2.out.put 0 (.int .u16 1)).put 1 (.int .u16 0)).put 2 (.int .u16 0)).put 3 (.int .u16 0)) Tryz.underlying48 rfl (by kernel_rfl)) rfl ⟨rfl, ?_⟩
 exact (((KG.out.setCell (Nat.le_refl _) _).setCell (Nat.le_refl _) _).setCell (Nat.le_refl _) _).setCell (Nat.le_refl _) _
set_option maxRecDepth 100000 in
set_option maxHeartbeats 4000000 in
theorem only_1 (w : World) : Calls Tryz.prog 81 #[.int .i64 1] w fun e w' => e = .returned (Mo.v (letM 1)) ∧ Below w.heap.size w w' := by
 obtain ⟨V, hV⟩ : ∃ V, V = w.alloc (.cells #[.int .u16 0, .int .u16 0, .int .u16 0, .int .u16 0] 48) := ⟨_, rfl⟩
 have B1 := Lib.hid (show Bxs V w.heap.size 48 [.int .u16 0, .int .u16 0, .int .u16 0, .int .u16 0] by rw [hV]; exact Bxs.new w 48 [.int .u16 0, .int .u16 0, .int .u16 0, .int .u16 0])
 have hbV : Below w.heap.size w V := by rw [hV]; exact (Below.refl _ _).alloc (Nat.le_refl _) _
 have KG := Lib.hid hbV
 have HV := Lib.hid hV
 clear hV hbV
 go_enter Tryz.func81, Tryz.ntmps81
 go_upto_region 1 with (fail)
 rw [show w.alloc (.cells #[.int .u16 0, .int .u16 0, .int .u16 0, .int .u16 0] 48) = V from HV.out.symm]
 have c0 := B1.out.cell (i := 0) rfl
 have c1 := B1.out.cell (i := 1) rfl
 have c2 := B1.out.cell (i := 2) rfl
 have c3 := B1.out.cell (i := 3) rfl
 have cf := B1.out.fz
 have cl := B1.out.lt
 go_upto_region 2 with (fail)
 clear c0 c1 c2 c3 cf cl
 obtain ⟨U, hU⟩ : ∃ U, U = V.setCell ⟨w.heap.size, 1, none⟩ (.int .u16 1) := ⟨_, rfl⟩
 have B2 := Lib.hid (show Bxs U w.heap.size 48 [.int .u16 0, .int .u16 1, .int .u16 0, .int .u16 0] by rw [hU]; exact B1.out.put 1 _)
 have KG := Lib.hid (show Below w.heap.size w U by rw [hU]; exact KG.out.setCell (Nat.le_refl _) _)
 rw [← hU]
 clear hU
 have c0 := B2.out.cell (i := 0) rfl
 have c1 := B2.out.cell (i := 1) rfl
 have c2 := B2.out.cell (i := 2) rfl
 have c3 := B2.out.cell (i := 3) rfl
 have cf := B2.out.fz
 have cl := B2.out.lt
 go_wp2_with fail
 refine bodyPost_ret (results_cell rfl _ _ _ _ _ _ _ rfl ((((B2.out.put 0 (.int .u16 0)).put 1 (.int .u16 1)).put 2 (.int .u16 0)).put 3 (.int .u16 0)) Tryz.underlying48 rfl (by kernel_rfl)) rfl ⟨rfl, ?_⟩
 exact (((KG.out.setCell (Nat.le_refl _) _).setCell (Nat.le_refl _) _).setCell (Nat.le_refl _) _).setCell (Nat.le_refl _) _
set_option maxRecDepth 100000 in
set_option maxHeartbeats 4000000 in
theorem only_2 (w : World) : Calls Tryz.prog 81 #[.int .i64 2] w fun e w' => e = .returned (Mo.v (letM 2)) ∧ Below w.heap.size w w' := by
 obtain ⟨V, hV⟩ : ∃ V, V = w.alloc (.cells #[.int .u16 0, .int .u16 0, .int .u16 0, .int .u16 0] 48) := ⟨_, rfl⟩
 have B1 := Lib.hid (show Bxs V w.heap.size 48 [.int .u16 0, .int .u16 0, .int .u16 0, .int .u16 0] by rw [hV]; exact Bxs.new w 48 [.int .u16 0, .int .u16 0, .int .u16 0, .int .u16 0])
 have hbV : Below w.heap.size w V := by rw [hV]; exact (Below.refl _ _).alloc (Nat.le_refl _) _
 have KG := Lib.hid hbV
 have HV := Lib.hid hV
 clear hV hbV
 go_enter Tryz.func81, Tryz.ntmps81
 go_upto_region 1 with (fail)
 rw [show w.alloc (.cells #[.int .u16 0, .int .u16 0, .int .u16 0, .int .u16 0] 48) = V from HV.out.symm]
 have c0 := B1.out.cell (i := 0) rfl
 have c1 := B1.out.cell (i := 1) rfl
 have c2 := B1.out.cell (i := 2) rfl
 have c3 := B1.out.cell (i := 3) rfl
 have cf := B1.out.fz
 have cl := B1.out.lt
 go_upto_region 2 with (fail)
 clear c0 c1 c2 c3 cf cl
 obtain ⟨U, hU⟩ : ∃ U, U = V.setCell ⟨w.heap.size, 2, none⟩ (.int .u16 1) := ⟨_, rfl⟩
 have B2 := Lib.hid (show Bxs U w.heap.size 48 [.int .u16 0, .int .u16 0, .int .u16 1, .int .u16 0] by rw [hU]; exact B1.out.put 2 _)
 have KG := Lib.hid (show Below w.heap.size w U by rw [hU]; exact KG.out.setCell (Nat.le_refl _) _)
 rw [← hU]
 clear hU
 have c0 := B2.out.cell (i := 0) rfl
 have c1 := B2.out.cell (i := 1) rfl
 have c2 := B2.out.cell (i := 2) rfl
 have c3 := B2.out.cell (i := 3) rfl
 have cf := B2.out.fz
 have cl := B2.out.lt
 go_wp2_with fail
 refine bodyPost_ret (results_cell rfl _ _ _ _ _ _ _ rfl ((((B2.out.put 0 (.int .u16 0)).put 1 (.int .u16 0)).put 2 (.int .u16 1)).put 3 (.int .u16 0)) Tryz.underlying48 rfl (by kernel_rfl)) rfl ⟨rfl, ?_⟩
 exact (((KG.out.setCell (Nat.le_refl _) _).setCell (Nat.le_refl _) _).setCell (Nat.le_refl _) _).setCell (Nat.le_refl _) _
set_option maxRecDepth 100000 in
set_option maxHeartbeats 4000000 in
theorem only_3 (w : World) : Calls Tryz.prog 81 #[.int .i64 3] w fun e w' => e = .returned (Mo.v (letM 3)) ∧ Below w.heap.size w w' := by
 obtain ⟨V, hV⟩ : ∃ V, V = w.alloc (.cells #[.int .u16 0, .int .u16 0, .int .u16 0, .int .u16 0] 48) := ⟨_, rfl⟩
 have B1 := Lib.hid (show Bxs V w.heap.size 48 [.int .u16 0, .int .u16 0, .int .u16 0, .int .u16 0] by rw [hV]; exact Bxs.new w 48 [.int .u16 0, .int .u16 0, .int .u16 0, .int .u16 0])
 have hbV : Below w.heap.size w V := by rw [hV]; exact (Below.refl _ _).alloc (Nat.le_refl _) _
 have KG := Lib.hid hbV
 have HV := Lib.hid hV
 clear hV hbV
 go_enter Tryz.func81, Tryz.ntmps81
 go_upto_region 1 with (fail)
 rw [show w.alloc (.cells #[.int .u16 0, .int .u16 0, .int .u16 0, .int .u16 0] 48) = V from HV.out.symm]
 have c0 := B1.out.cell (i := 0) rfl
 have c1 := B1.out.cell (i := 1) rfl
 have c2 := B1.out.cell (i := 2) rfl
 have c3 := B1.out.cell (i := 3) rfl
 have cf := B1.out.fz
 have cl := B1.out.lt
 go_upto_region 2 with (fail)
 clear c0 c1 c2 c3 cf cl
 obtain ⟨U, hU⟩ : ∃ U, U = V.setCell ⟨w.heap.size, 3, none⟩ (.int .u16 1) := ⟨_, rfl⟩
 have B2 := Lib.hid (show Bxs U w.heap.size 48 [.int .u16 0, .int .u16 0, .int .u16 0, .int .u16 1] by rw [hU]; exact B1.out.put 3 _)
 have KG := Lib.hid (show Below w.heap.size w U by rw [hU]; exact KG.out.setCell (Nat.le_refl _) _)
 rw [← hU]
 clear hU
 have c0 := B2.out.cell (i := 0) rfl
 have c1 := B2.out.cell (i := 1) rfl
 have c2 := B2.out.cell (i := 2) rfl
 have c3 := B2.out.cell (i := 3) rfl
 have cf := B2.out.fz
 have cl := B2.out.lt
 go_wp2_with fail
 refine bodyPost_ret (results_cell rfl _ _ _ _ _ _ _ rfl ((((B2.out.put 0 (.int .u16 0)).put 1 (.int .u16 0)).put 2 (.int .u16 0)).put 3 (.int .u16 1)) Tryz.underlying48 rfl (by kernel_rfl)) rfl ⟨rfl, ?_⟩
 exact (((KG.out.setCell (Nat.le_refl _) _).setCell (Nat.le_refl _) _).setCell (Nat.le_refl _) _).setCell (Nat.le_refl _) _
theorem only_any (i : Nat) (hi : i < 4) (w : World) : Calls Tryz.prog 81 #[.int .i64 (i : Int)] w fun e w' => e = .returned (Mo.v (letM i)) ∧ Below w.heap.size w w' := by
 obtain rfl | rfl | rfl | rfl : i = 0 ∨ i = 1 ∨ i = 2 ∨ i = 3 := by omega
 ·exact only_0 w
 ·exact only_1 w
 ·exact only_2 w
 ·exact only_3 w
def letP (i : Nat) : List Tm := [(letM i, 1)]
theorem letP_canon (i : Nat) : Canon (letP i) := ⟨List.pairwise_singleton _ _, fun t ht => by rw [List.mem_singleton.1 ht]; show (1 : Rat) ≠ 0; decide +kernel⟩
set_option maxRecDepth 100000 in
set_option maxHeartbeats 4000000 in
theorem letter_k (i : Nat) (hi : i < 4) (w : World) : Calls Tryz.prog 34 #[.int .i64 (i : Int)] w fun e w' => ∃ z : PV, e = .returned (.tuple #[z.v, .int .i64 0]) ∧ DP w' w.heap.size z (letP i) ∧ Below w.heap.size w w' := by
 have OF := Lib.hid (qof 1 w (by decide) (by decide))
 have HI := Lib.hid hi
 have h1 : ¬ ((i : Int) < 0) := by omega
 have h2 : ¬ ((4 : Int) ≤ (i : Int)) := by omega
 have h3 : ¬ ((i : Int) ≥ 4) := by omega
 clear hi
 go_enter Tryz.func34, Tryz.ntmps34
 go_wp2_with fail
 with_reducible refine OF.out.mono ?_
 rintro e w1 ⟨c, rfl, hc, hb⟩
 have HC := Lib.hid hc
 have KG := Lib.hid hb
 have ON := Lib.hid (only_any i HI.out w1)
 clear hc hb OF
 go_wp2_with fail
 with_reducible refine ON.out.mono ?_
 rintro e w2 ⟨rfl, hb⟩
 have HC := Lib.hid (HC.out.below hb)
 have KG := Lib.hid (KG.out.trans (hb.mono KG.out.size))
 clear hb ON
 go_wp2_with fail
 go_ret2
 have hal : Below w2.heap.size w2 (w2.alloc (.cells (TV.cells ⟨c, letM i⟩).toArray 50)) := (Below.refl _ _).alloc (Nat.le_refl _) _
 refine ⟨⟨some ⟨w2.heap.size, 0, none⟩, 1, 1⟩, rfl, ?_, KG.out.trans (hal.mono KG.out.size)⟩
 refine ⟨⟨[(⟨c, letM i⟩, 1)], ?_, fun e he => ?_, List.pairwise_singleton _ _, rfl⟩, letP_canon i, fun t ht => ?_⟩
 ·show World.ownsRow _ _ _ _ _ _ _
  exact World.ownsRow_lit (base := w.heap.size) (e := 50) (size := 8) w2 (TV.cells ⟨c, letM i⟩).toArray 1 KG.out.size (by decide) rfl
 ·rw [List.mem_singleton.1 he]
  exact HC.out.below hal
 ·rw [List.mem_singleton.1 ht]
  exact letM_small i
set_option maxRecDepth 100000 in
set_option maxHeartbeats 4000000 in
theorem llet_k (i : Nat) (hi : i < 4) (w : World) : Calls Tryz.prog 31 #[.int .i64 (i : Int)] w fun e w' => ∃ z : PV, e = .returned z.v ∧ DP w' w.heap.size z (letP i) ∧ Below w.heap.size w w' := by
 have LT := Lib.hid (letter_k i hi w)
 clear hi
 go_enter Tryz.func31, Tryz.ntmps31
 go_wp2_with fail
 with_reducible refine LT.out.mono ?_
 rintro e w1 ⟨z, rfl, hz, hb⟩
 have HZ := Lib.hid hz
 have KG := Lib.hid hb
 clear hz hb LT
 go_wp2_with fail
 go_ret
 exact ⟨z, rfl, HZ.out, KG.out⟩
set_option maxRecDepth 100000 in
set_option maxHeartbeats 4000000 in
theorem lmul_k (x y : PV) (P Q : List Tm) (k1 k2 e1 e2 : Nat) (w : World) (hx : KP w x P) (hy : KP w y Q) (hp : ∀ t ∈ P, LQ t.2 k1 ∧ t.1.le e1) (hq : ∀ t ∈ Q, LQ t.2 k2 ∧ t.1.le e2)
  (hk : P.length * (k1 + k2 + 1) ≤ 900000) (h1 : k1 ≤ 900000) (h2 : k2 ≤ 900000) (hn : P.length * Q.length ≤ 1000000) (hpn : P.length ≤ 1000000) (hqn : Q.length ≤ 1000000) (he : e1 + e2 ≤ 65535) :
  Calls Tryz.prog 30 #[x.v, y.v] w fun e w' => ∃ z : PV, e = .returned z.v ∧ DP w' w.heap.size z (mulP P Q) ∧ Below w.heap.size w w' := by
 have MU := Lib.hid (mul_k x y P Q k1 k2 e1 e2 w hx hy hp hq hk h1 h2 hn hpn hqn he)
 clear hx hy hp hq hk h1 h2 hn hpn hqn he
 obtain ⟨xa, xn, xc⟩ := x
 obtain ⟨ya, yn, yc⟩ := y
 change Calls Tryz.prog 30 #[.slice xa xn xc, .slice ya yn yc] w _
 go_enter Tryz.func30, Tryz.ntmps30
 go_wp2_with fail
 with_reducible refine MU.out.mono ?_
 rintro e w1 ⟨z, rfl, hz, hb⟩
 have HZ := Lib.hid hz
 have KG := Lib.hid hb
 clear hz hb MU
 go_wp2_with fail
 go_ret
 exact ⟨z, rfl, HZ.out, KG.out⟩
set_option maxRecDepth 100000 in
set_option maxHeartbeats 4000000 in
theorem lsame_k (x y : PV) (P : List Tm) (w : World) (hx : KP w x P) (hy : KP w y P) (hp : ∀ t ∈ P, LQ t.2 900000) (hn : P.length ≤ 1000000) : Calls Tryz.prog 72 #[x.v, y.v] w fun e w' => e = .returned (.bool true) ∧ Below w.heap.size w w' := by
 have SM := Lib.hid (same_k x y P w hx hy hp hn)
 clear hx hy hp hn
 obtain ⟨xa, xn, xc⟩ := x
 obtain ⟨ya, yn, yc⟩ := y
 change Calls Tryz.prog 72 #[.slice xa xn xc, .slice ya yn yc] w _
 go_enter Tryz.func72, Tryz.ntmps72
 go_wp2_with fail
 with_reducible refine SM.out.mono ?_
 rintro e w1 ⟨rfl, hb⟩
 have KG := Lib.hid hb
 clear hb SM
 go_wp2_with fail
 go_ret
 exact ⟨rfl, KG.out⟩
end Go.Proofs.YthcccdjfedbnfaaGreatDoor.Pol
