/-
  The references' fractions, and their order of products of letters, under one name each.
-/
import Derived.Test.YtgkkbkoiaccmfaaGreatDoorPzMM
import Derived.Shelf.Spec.SlicesGrow
import Derived.SizedLaws
import Derived.Lib.EndianBits
set_option linter.unusedSimpArgs false
set_option linter.unusedVariables false
set_option maxHeartbeats 16000000
set_option maxRecDepth 100000
namespace Go.Proofs.YtgkkbkoiaccmfaaGreatDoor.Pol
open Go.RowKit Go.Sort Go.Proofs.YtgkkbkoiaccmfaaGreatDoor.Limb
theorem one_small:Mo.one.Small:=⟨by decide,by decide,by decide,by decide⟩
theorem lq_one:LQ ((1:Int):Rat) 3:=LQ.int (by decide) (by decide)
theorem of1_any (t:TV) (q:Rat) (w:World) (af:AF w t.c q) (lf:LF t.c 900000):Calls Tryz.prog 70 #[TV.v t] w fun en w'=>∃ y:FV,en=.returned (TV.v ⟨y,Mo.one⟩)∧DF w' w.heap.size y q∧Below w.heap.size w w':=by
 have LQq:=qh (af.len lf);have HLNF:=qh lf;obtain⟨V,hV⟩:∃ V,V=(w.alloc (.cells #[.bool t.c.t.s,.slice t.c.t.a t.c.t.n t.c.t.c,.bool t.c.l.s,.slice t.c.l.a t.c.l.n t.c.l.c,.int .u16 t.m.x,.int .u16 t.m.y,.int .u16 t.m.z,.int .u16 t.m.t] 71)).alloc (.cells #[.bool false,.slice none 0 0,.bool false,.slice none 0 0,.int .u16 0,.int .u16 0,.int .u16 0,.int .u16 0] 71):=⟨_,rfl⟩
 have hbV:Below w.heap.size w V:=by rw[hV];exact((Below.refl _ _).alloc (Nat.le_refl _) _).alloc (by go_size) _
 have B1:=qh (show Bxs V w.heap.size 71 [.bool t.c.t.s,.slice t.c.t.a t.c.t.n t.c.t.c,.bool t.c.l.s,.slice t.c.l.a t.c.l.n t.c.l.c,.int .u16 t.m.x,.int .u16 t.m.y,.int .u16 t.m.z,.int .u16 t.m.t] by rw[hV];exact(Bxs.new w 71 [.bool t.c.t.s,.slice t.c.t.a t.c.t.n t.c.t.c,.bool t.c.l.s,.slice t.c.l.a t.c.l.n t.c.l.c,.int .u16 t.m.x,.int .u16 t.m.y,.int .u16 t.m.z,.int .u16 t.m.t]).alloc _)
 have B2:=qh (show Bxs V (w.heap.size+1) 71 [.bool false,.slice none 0 0,.bool false,.slice none 0 0,.int .u16 0,.int .u16 0,.int .u16 0,.int .u16 0] by
  have h:=Bxs.new (w.alloc (.cells #[.bool t.c.t.s,.slice t.c.t.a t.c.t.n t.c.t.c,.bool t.c.l.s,.slice t.c.l.a t.c.l.n t.c.l.c,.int .u16 t.m.x,.int .u16 t.m.y,.int .u16 t.m.z,.int .u16 t.m.t] 71)) 71 [.bool false,.slice none 0 0,.bool false,.slice none 0 0,.int .u16 0,.int .u16 0,.int .u16 0,.int .u16 0];rw[World.size_alloc] at h
  rw[hV];exact h)
 have KG:=qh hbV;obtain⟨A1,hA1⟩:∃ A,A=w.heap.size:=⟨_,rfl⟩;obtain⟨A2,hA2⟩:∃ A,A=w.heap.size+1:=⟨_,rfl⟩;have HA2:=qh (show w.heap.size≤A2 by omega);have HSZ:=qh (show w.heap.size≤V.heap.size from hbV.size);have NF:=qh (af.below hbV);clear af lf;change Calls Tryz.prog 70 #[.agg #[.bool t.c.t.s,.slice t.c.t.a t.c.t.n t.c.t.c,.bool t.c.l.s,.slice t.c.l.a t.c.l.n t.c.l.c,.int .u16 t.m.x,.int .u16 t.m.y,.int .u16 t.m.z,.int .u16 t.m.t]] w _;go_enter Tryz.func70,Tryz.ntmps70
 go_upto_region 1 with (fail)
 rw[← hV,← hA2,← hA1];rw[← hA1] at B1;rw[← hA2] at B2;clear hV hbV hA1 hA2;obtain⟨q101,hq101⟩:∃ z:Rat,z=((1:Int):Rat):=⟨_,rfl⟩;have Hq101:=qh hq101;have LQq101:=qh (show LQ q101 3 by rw[hq101];exact LQ.int (by decide) (by decide));clear hq101;obtain⟨q102,hq102⟩:∃ z:Rat,z=q*q101:=⟨_,rfl⟩;have Hq102:=qh hq102;have LQq102:=qh (show LQ q102 1800002 by rw[hq102];exact LQ.mul (LQq.out.up (by decide:_≤900001)) (LQq101.out.up (by decide:_≤900001)) (by decide));clear hq102
 go_upto_region 1 with (fail)
 refine FS.wp_region_fresh 5 [] (FS.spOf [(2,FS.Sp.made (fun x:FV=>x.v) (fun x w'=>DF w' V.heap.size x q101) FV.blk),(3,FS.Sp.made (fun x:FV=>x.v) (fun x w'=>DF w' V.heap.size x q102) FV.blk)])
  (fun w'=>Below V.heap.size V w') (by kernel_rfl) (by kernel_rfl) (by kernel_rfl)
  (FS.spOf_cons (FS.Sp.made_keeps _ (fun _ _ _ h _ hk=>h.kept hk) (FS.notTaken (by kernel_rfl))) (FS.spOf_cons (FS.Sp.made_keeps _ (fun _ _ _ h _ hk=>h.kept hk) (FS.notTaken (by kernel_rfl))) (FS.spOf_nil))) (fun _ _ h hb=>h.trans (hb.mono h.size)) ((Below.refl _ _).drew) ?_
 simp only[List.append_eq,List.cons_append,List.nil_append,List.take_succ_cons,List.take_zero,List.drop_succ_cons,List.drop_zero]
 iterate 2
  refine FS.wpF_reads rfl rfl rfl ?_ (fun w' hw'=>?_) ?_;rotate_left
  ·have hb':=hw'.world;have hs0:=(B1.out.below hb' B1.out.lt).cell (i:=0) rfl;have hs1:=(B1.out.below hb' B1.out.lt).cell (i:=1) rfl;have hs2:=(B1.out.below hb' B1.out.lt).cell (i:=2) rfl;have hs3:=(B1.out.below hb' B1.out.lt).cell (i:=3) rfl;have hs4:=(B1.out.below hb' B1.out.lt).cell (i:=4) rfl;have hs5:=(B1.out.below hb' B1.out.lt).cell (i:=5) rfl;have hs6:=(B1.out.below hb' B1.out.lt).cell (i:=6) rfl;have hs7:=(B1.out.below hb' B1.out.lt).cell (i:=7) rfl;have hsf:=(B1.out.below hb' B1.out.lt).fz;have hsl:=(B1.out.below hb' B1.out.lt).lt;clear hw';go_simp
   try rfl
  conv=>arg 10;simp only[Act.put,zq0,zq1,zq2]
 refine FS.wpF_spec rfl rfl rfl (fun w' hw'=>?_) ?_
 ·have hb':=hw'.world;refine FS.gives_of (FS.PM (fun x:FV=>x.v) (fun x w'=>DF w' V.heap.size x q101) FV.blk w'.heap.size) ?_ (fun _ _ h=>h.post (fun _ _=>FV.inj));go_simp;have CT:=qof 1 w' (by decide) (by decide);rw[show((1:Int):Rat)=q101 from Hq101.out.symm] at CT;refine CT.mono ?_;rintro e w'' ⟨za,rfl,ho,hb⟩;exact⟨_,rfl,⟨za,rfl,ho.mono hb'.size,ho.blks⟩,hb⟩
 rintro _ ⟨y2,rfl⟩
 conv=>arg 10;simp only[Act.put,zq0,zq1,zq2]
 refine FS.wpF_spec rfl rfl rfl (fun w' hw'=>?_) ?_
 ·have hb':=hw'.world;refine FS.gives_of (FS.PM (fun x:FV=>x.v) (fun x w'=>DF w' V.heap.size x q102) FV.blk w'.heap.size) ?_ (fun _ _ h=>h.post (fun _ _=>FV.inj));go_simp;have f2:=FS.made_of (val:=(fun x:FV=>x.v)) (Φ:=fun x w'=>DF w' V.heap.size x q101) (fun _ _=>FV.inj) (hw'.fact 2 (by kernel_rfl));have CT:=qmul (NF.out.below hb') (LF.up HLNF.out (by decide:_≤900000)) (f2).k.any (((f2).k).len LQq101.out (by decide:_≤900000));rw[show q*q101=q102 from Hq102.out.symm] at CT;refine CT.mono ?_;rintro e w'' ⟨za,rfl,ho,hb⟩;exact⟨_,rfl,⟨za,rfl,ho.mono hb'.size,ho.blks⟩,hb⟩
 rintro _ ⟨y3,rfl⟩
 conv=>arg 10;simp only[Act.put,zq0,zq1,zq2]
 refine FS.wpF_reads rfl rfl rfl ?_ (fun w' hw'=>?_) ?_;rotate_left
 ·have hb':=hw'.world;skip;clear hw';go_simp
  try rfl
 conv=>arg 10;simp only[Act.put,zq0,zq1,zq2]
 refine FS.wpF_nil (fun w103 hb hF=>?_);have N104:=qh (show DF w103 V.heap.size y3 q102 from(FS.made_of (val:=(fun x:FV=>x.v)) (Φ:=fun x w'=>DF w' V.heap.size x q102) (fun _ _=>FV.inj) (hF.all 3)));clear hF;have NF:=qh (NF.out.below hb);have B1:=qh (B1.out.below hb B1.out.lt);have B2:=qh (B2.out.below hb B2.out.lt);have KG:=qk KG hb;clear hb;have HD:=qh (show DF (put8 w103 A2 (.bool y3.t.s) (.slice y3.t.a y3.t.n y3.t.c) (.bool y3.l.s) (.slice y3.l.a y3.l.n y3.l.c) (.int .u16 0) (.int .u16 0) (.int .u16 0) (.int .u16 0)) w.heap.size y3 q from by rw[show q=q102 from by rw[Hq102.out,Hq101.out];grind];exact put8_df (N104.out.mono HSZ.out) B2.out (by decide) ..);have HB:=qh (show Below w.heap.size w (put8 w103 A2 (.bool y3.t.s) (.slice y3.t.a y3.t.n y3.t.c) (.bool y3.l.s) (.slice y3.l.a y3.l.n y3.l.c) (.int .u16 0) (.int .u16 0) (.int .u16 0) (.int .u16 0)) from put8_below KG.out HA2.out ..);have cB20:=B2.out.cell (i:=0) rfl;have cB21:=B2.out.cell (i:=1) rfl;have cB22:=B2.out.cell (i:=2) rfl;have cB23:=B2.out.cell (i:=3) rfl;have cB24:=B2.out.cell (i:=4) rfl;have cB25:=B2.out.cell (i:=5) rfl;have cB26:=B2.out.cell (i:=6) rfl;have cB27:=B2.out.cell (i:=7) rfl;have cB2f:=B2.out.fz;have cB2l:=B2.out.lt;go_wp2_with fail
 refine bodyPost_ret (results_cell rfl _ _ _ _ _ _ _ rfl (put8_bxs B2.out ..) Tryz.underlying71 rfl (by kernel_rfl)) rfl ⟨y3,rfl,HD.out,HB.out⟩
theorem scale1_any (t:TV) (q:Rat) (w:World) (af:AF w t.c q) (lf:LF t.c 900000) (bc:Nat) (c:FV) (r:Rat) (hc:Bxs w bc 28 [.bool c.t.s,.slice c.t.a c.t.n c.t.c,.bool c.l.s,.slice c.l.a c.l.n c.l.c]) (ac:AF w c r) (lc:LF c 900000):Calls Tryz.prog 75 #[TV.v t,.pointer (some ⟨bc,0,none⟩)] w fun en w'=>∃ y:FV,en=.returned (TV.v ⟨y,t.m⟩)∧DF w' w.heap.size y (q*r)∧Below w.heap.size w w':=by
 have LQq:=qh (af.len lf);have HLNF:=qh lf;obtain⟨V,hV⟩:∃ V,V=(w.alloc (.cells #[.bool t.c.t.s,.slice t.c.t.a t.c.t.n t.c.t.c,.bool t.c.l.s,.slice t.c.l.a t.c.l.n t.c.l.c,.int .u16 t.m.x,.int .u16 t.m.y,.int .u16 t.m.z,.int .u16 t.m.t] 71)).alloc (.cells #[.bool false,.slice none 0 0,.bool false,.slice none 0 0,.int .u16 0,.int .u16 0,.int .u16 0,.int .u16 0] 71):=⟨_,rfl⟩
 have hbV:Below w.heap.size w V:=by rw[hV];exact((Below.refl _ _).alloc (Nat.le_refl _) _).alloc (by go_size) _
 have B1:=qh (show Bxs V w.heap.size 71 [.bool t.c.t.s,.slice t.c.t.a t.c.t.n t.c.t.c,.bool t.c.l.s,.slice t.c.l.a t.c.l.n t.c.l.c,.int .u16 t.m.x,.int .u16 t.m.y,.int .u16 t.m.z,.int .u16 t.m.t] by rw[hV];exact(Bxs.new w 71 [.bool t.c.t.s,.slice t.c.t.a t.c.t.n t.c.t.c,.bool t.c.l.s,.slice t.c.l.a t.c.l.n t.c.l.c,.int .u16 t.m.x,.int .u16 t.m.y,.int .u16 t.m.z,.int .u16 t.m.t]).alloc _)
 have B2:=qh (show Bxs V (w.heap.size+1) 71 [.bool false,.slice none 0 0,.bool false,.slice none 0 0,.int .u16 0,.int .u16 0,.int .u16 0,.int .u16 0] by
  have h:=Bxs.new (w.alloc (.cells #[.bool t.c.t.s,.slice t.c.t.a t.c.t.n t.c.t.c,.bool t.c.l.s,.slice t.c.l.a t.c.l.n t.c.l.c,.int .u16 t.m.x,.int .u16 t.m.y,.int .u16 t.m.z,.int .u16 t.m.t] 71)) 71 [.bool false,.slice none 0 0,.bool false,.slice none 0 0,.int .u16 0,.int .u16 0,.int .u16 0,.int .u16 0];rw[World.size_alloc] at h
  rw[hV];exact h)
 have KG:=qh hbV;obtain⟨A1,hA1⟩:∃ A,A=w.heap.size:=⟨_,rfl⟩;obtain⟨A2,hA2⟩:∃ A,A=w.heap.size+1:=⟨_,rfl⟩;have HA2:=qh (show w.heap.size≤A2 by omega);have HSZ:=qh (show w.heap.size≤V.heap.size from hbV.size);have NF:=qh (af.below hbV);have LQr:=qh (ac.len lc);have HLNC:=qh lc;have NC:=qh (ac.below hbV);have BC:=qh (hc.below hbV hc.lt);clear hc ac lc;clear af lf;change Calls Tryz.prog 75 #[.agg #[.bool t.c.t.s,.slice t.c.t.a t.c.t.n t.c.t.c,.bool t.c.l.s,.slice t.c.l.a t.c.l.n t.c.l.c,.int .u16 t.m.x,.int .u16 t.m.y,.int .u16 t.m.z,.int .u16 t.m.t],.pointer (some ⟨bc,0,none⟩)] w _;go_enter Tryz.func75,Tryz.ntmps75
 go_upto_region 1 with (fail)
 rw[← hV,← hA2,← hA1];rw[← hA1] at B1;rw[← hA2] at B2;clear hV hbV hA1 hA2;obtain⟨q101,hq101⟩:∃ z:Rat,z=q*r:=⟨_,rfl⟩;have Hq101:=qh hq101;have LQq101:=qh (show LQ q101 1800002 by rw[hq101];exact LQ.mul (LQq.out.up (by decide:_≤900001)) (LQr.out.up (by decide:_≤900001)) (by decide));clear hq101
 go_upto_region 1 with (fail)
 refine FS.wp_region_fresh 7 [] (FS.spOf [(3,FS.Sp.made (fun x:FV=>x.v) (fun x w'=>DF w' V.heap.size x q101) FV.blk)])
  (fun w'=>Below V.heap.size V w') (by kernel_rfl) (by kernel_rfl) (by kernel_rfl)
  (FS.spOf_cons (FS.Sp.made_keeps _ (fun _ _ _ h _ hk=>h.kept hk) (FS.notTaken (by kernel_rfl))) (FS.spOf_nil)) (fun _ _ h hb=>h.trans (hb.mono h.size)) ((Below.refl _ _).drew) ?_
 simp only[List.append_eq,List.cons_append,List.nil_append,List.take_succ_cons,List.take_zero,List.drop_succ_cons,List.drop_zero]
 iterate 3
  refine FS.wpF_reads rfl rfl rfl ?_ (fun w' hw'=>?_) ?_;rotate_left
  ·have hb':=hw'.world;have hs0:=(B1.out.below hb' B1.out.lt).cell (i:=0) rfl;have hs1:=(B1.out.below hb' B1.out.lt).cell (i:=1) rfl;have hs2:=(B1.out.below hb' B1.out.lt).cell (i:=2) rfl;have hs3:=(B1.out.below hb' B1.out.lt).cell (i:=3) rfl;have hs4:=(B1.out.below hb' B1.out.lt).cell (i:=4) rfl;have hs5:=(B1.out.below hb' B1.out.lt).cell (i:=5) rfl;have hs6:=(B1.out.below hb' B1.out.lt).cell (i:=6) rfl;have hs7:=(B1.out.below hb' B1.out.lt).cell (i:=7) rfl;have hsf:=(B1.out.below hb' B1.out.lt).fz;have hsl:=(B1.out.below hb' B1.out.lt).lt;have hs0:=(BC.out.below hb' BC.out.lt).cell (i:=0) rfl;have hs1:=(BC.out.below hb' BC.out.lt).cell (i:=1) rfl;have hs2:=(BC.out.below hb' BC.out.lt).cell (i:=2) rfl;have hs3:=(BC.out.below hb' BC.out.lt).cell (i:=3) rfl;have hsf:=(BC.out.below hb' BC.out.lt).fz;have hsl:=(BC.out.below hb' BC.out.lt).lt;clear hw';go_simp
   try rfl
  conv=>arg 10;simp only[Act.put,zq0,zq1,zq2]
 refine FS.wpF_spec rfl rfl rfl (fun w' hw'=>?_) ?_
 ·have hb':=hw'.world;refine FS.gives_of (FS.PM (fun x:FV=>x.v) (fun x w'=>DF w' V.heap.size x q101) FV.blk w'.heap.size) ?_ (fun _ _ h=>h.post (fun _ _=>FV.inj));go_simp;have CT:=qmul (NF.out.below hb') (LF.up HLNF.out (by decide:_≤900000)) (NC.out.below hb') (LF.up HLNC.out (by decide:_≤900000));rw[show q*r=q101 from Hq101.out.symm] at CT;refine CT.mono ?_;rintro e w'' ⟨za,rfl,ho,hb⟩;exact⟨_,rfl,⟨za,rfl,ho.mono hb'.size,ho.blks⟩,hb⟩
 rintro _ ⟨y3,rfl⟩
 conv=>arg 10;simp only[Act.put,zq0,zq1,zq2]
 iterate 3
  refine FS.wpF_reads rfl rfl rfl ?_ (fun w' hw'=>?_) ?_;rotate_left
  ·have hb':=hw'.world;have hs0:=(B1.out.below hb' B1.out.lt).cell (i:=0) rfl;have hs1:=(B1.out.below hb' B1.out.lt).cell (i:=1) rfl;have hs2:=(B1.out.below hb' B1.out.lt).cell (i:=2) rfl;have hs3:=(B1.out.below hb' B1.out.lt).cell (i:=3) rfl;have hs4:=(B1.out.below hb' B1.out.lt).cell (i:=4) rfl;have hs5:=(B1.out.below hb' B1.out.lt).cell (i:=5) rfl;have hs6:=(B1.out.below hb' B1.out.lt).cell (i:=6) rfl;have hs7:=(B1.out.below hb' B1.out.lt).cell (i:=7) rfl;have hsf:=(B1.out.below hb' B1.out.lt).fz;have hsl:=(B1.out.below hb' B1.out.lt).lt;clear hw';go_simp
   try rfl
  conv=>arg 10;simp only[Act.put,zq0,zq1,zq2]
 refine FS.wpF_nil (fun w102 hb hF=>?_);have N103:=qh (show DF w102 V.heap.size y3 q101 from(FS.made_of (val:=(fun x:FV=>x.v)) (Φ:=fun x w'=>DF w' V.heap.size x q101) (fun _ _=>FV.inj) (hF.all 3)));clear hF;have NF:=qh (NF.out.below hb);have NC:=qh (NC.out.below hb);have B1:=qh (B1.out.below hb B1.out.lt);have B2:=qh (B2.out.below hb B2.out.lt);have BC:=qh (BC.out.below hb BC.out.lt);have KG:=qk KG hb;clear hb;have HD:=qh (show DF (put8 w102 A2 (.bool y3.t.s) (.slice y3.t.a y3.t.n y3.t.c) (.bool y3.l.s) (.slice y3.l.a y3.l.n y3.l.c) (.int .u16 t.m.x) (.int .u16 t.m.y) (.int .u16 t.m.z) (.int .u16 t.m.t)) w.heap.size y3 (q*r) from by rw[show(q*r)=q101 from Hq101.out.symm];exact put8_df (N103.out.mono HSZ.out) B2.out (by decide) ..);have HB:=qh (show Below w.heap.size w (put8 w102 A2 (.bool y3.t.s) (.slice y3.t.a y3.t.n y3.t.c) (.bool y3.l.s) (.slice y3.l.a y3.l.n y3.l.c) (.int .u16 t.m.x) (.int .u16 t.m.y) (.int .u16 t.m.z) (.int .u16 t.m.t)) from put8_below KG.out HA2.out ..);have cB20:=B2.out.cell (i:=0) rfl;have cB21:=B2.out.cell (i:=1) rfl;have cB22:=B2.out.cell (i:=2) rfl;have cB23:=B2.out.cell (i:=3) rfl;have cB24:=B2.out.cell (i:=4) rfl;have cB25:=B2.out.cell (i:=5) rfl;have cB26:=B2.out.cell (i:=6) rfl;have cB27:=B2.out.cell (i:=7) rfl;have cB2f:=B2.out.fz;have cB2l:=B2.out.lt;go_wp2_with fail
 refine bodyPost_ret (results_cell rfl _ _ _ _ _ _ _ rfl (put8_bxs B2.out ..) Tryz.underlying71 rfl (by kernel_rfl)) rfl ⟨y3,rfl,HD.out,HB.out⟩
theorem of_num (c:FV) (q:Rat) (w:World) (ac:AF w c q) (lc:LF c 900000) (hq:LQ q 400000):Calls Tryz.prog 14 #[c.v] w fun e w'=>∃ y:PV,e=.returned y.v∧DP w' w.heap.size y (nf [(Mo.one,q)])∧Below w.heap.size w w':=by
 have B1:=qh (Bxs.new w 28 [.bool c.t.s,.slice c.t.a c.t.n c.t.c,.bool c.l.s,.slice c.l.a c.l.n c.l.c]);obtain⟨V,hV⟩:∃ V,V=(w.alloc (.cells #[.bool c.t.s,.slice c.t.a c.t.n c.t.c,.bool c.l.s,.slice c.l.a c.l.n c.l.c] 28)).alloc (.cells #[.bool c.t.s,.slice c.t.a c.t.n c.t.c,.bool c.l.s,.slice c.l.a c.l.n c.l.c,.int .u16 0,.int .u16 0,.int .u16 0,.int .u16 0] 71):=⟨_,rfl⟩
 have hbV:Below w.heap.size w V:=by rw[hV];exact((Below.refl _ _).alloc (Nat.le_refl _) _).alloc (by go_size) _
 have B2:=qh (show Bxs V (w.heap.size+1) 71 [.bool c.t.s,.slice c.t.a c.t.n c.t.c,.bool c.l.s,.slice c.l.a c.l.n c.l.c,.int .u16 0,.int .u16 0,.int .u16 0,.int .u16 0] by
  have h:=Bxs.new (w.alloc (.cells #[.bool c.t.s,.slice c.t.a c.t.n c.t.c,.bool c.l.s,.slice c.l.a c.l.n c.l.c] 28)) 71 [.bool c.t.s,.slice c.t.a c.t.n c.t.c,.bool c.l.s,.slice c.l.a c.l.n c.l.c,.int .u16 0,.int .u16 0,.int .u16 0,.int .u16 0];rw[World.size_alloc] at h
  rw[hV];exact h)
 have KG:=qh hbV
 have hrow:RowA V ⟨some ⟨w.heap.size+1,0,none⟩,1,1⟩ [((⟨c,Mo.one⟩:TV),q)]:=by
  refine⟨⟨fun _=>⟨w.heap.size+1,0,rfl,fun i t hi j v hj=>?_⟩⟩,rfl,fun e he=>?_,fun e he=>?_⟩
  ·obtain⟨rfl,rfl⟩:i=0∧t=⟨c,Mo.one⟩:=by
    cases i with
    | zero=>exact⟨rfl,by simpa using hi.symm⟩
    | succ i=>simp at hi
   rw[show 0+0*8+j=j by omega];exact B2.out.cell hj
  ·rw[List.mem_singleton.1 he];exact ac.below hbV
  ·rw[List.mem_singleton.1 he];exact lc
 have WT:=qh (with_any 70 #[] ⟨some ⟨w.heap.size+1,0,none⟩,1,1⟩ [((⟨c,Mo.one⟩:TV),q)] (fun e=>(Mo.one,e.2)) 400000 V hrow (by simp) (by simp) (fun _ _=>by kernel_rfl)
  (fun e he w1 hb ha hl=>by simpa using of1_any e.1 e.2 w1 ha hl) (fun e he=>one_small) (fun e he=>by rw[List.mem_singleton.1 he];exact hq))
 have HV:=qh hV;clear hV hbV hrow ac lc hq;go_enter Tryz.func14,Tryz.ntmps14;have c10:=B1.out.cell (i:=0) rfl;have c11:=B1.out.cell (i:=1) rfl;have c12:=B1.out.cell (i:=2) rfl;have c13:=B1.out.cell (i:=3) rfl;go_wp2_with fail
 rw[show(w.alloc (.cells #[.bool c.t.s,.slice c.t.a c.t.n c.t.c,.bool c.l.s,.slice c.l.a c.l.n c.l.c] 28)).alloc (.cells #[.bool c.t.s,.slice c.t.a c.t.n c.t.c,.bool c.l.s,.slice c.l.a c.l.n c.l.c,.int .u16 0,.int .u16 0,.int .u16 0,.int .u16 0] 71)=V from HV.out.symm];with_reducible refine WT.out.mono ?_
 rintro e w1 ⟨y,rfl,hy,hb⟩;have HY:=qh hy;have HB:=qh hb;clear hy hb WT;go_wp2_with fail
 go_ret;exact⟨y,rfl,HY.out.mono KG.out.size,KG.out.trans (HB.out.mono KG.out.size)⟩
theorem scale_any (x:PV) (P:List Tm) (c:FV) (r:Rat) (k n k2:Nat) (w:World) (hx:AP w x P) (hb:PB P n k 65535) (hxn:x.n≤1000000) (ac:AF w c r) (lc:LF c 900000) (hr:LQ r k2) (hk:k≤900000) (hkk:n*(k+k2+1)≤900000) :
  Calls Tryz.prog 16 #[x.v,c.v] w fun e w'=>∃ y:PV,e=.returned y.v∧DP w' w.heap.size y (scaleP r P)∧Below w.heap.size w w':=by
 have B1:=qh (Bxs.new w 28 [.bool c.t.s,.slice c.t.a c.t.n c.t.c,.bool c.l.s,.slice c.l.a c.l.n c.l.c]);obtain⟨V,hV⟩:∃ V,V=w.alloc (.cells #[.bool c.t.s,.slice c.t.a c.t.n c.t.c,.bool c.l.s,.slice c.l.a c.l.n c.l.c] 28):=⟨_,rfl⟩
 have hbV:Below w.heap.size w V:=by rw[hV];exact(Below.refl _ _).alloc (Nat.le_refl _) _
 have B1:=qh (show Bxs V w.heap.size 28 [.bool c.t.s,.slice c.t.a c.t.n c.t.c,.bool c.l.s,.slice c.l.a c.l.n c.l.c] by rw[hV];exact B1.out);have OF:=qh (of_any (hx.below hbV) (fun t ht=>(hb.lq t ht).up hk) (by omega));have HB:=qh hb;have AC:=qh (ac.below hbV);have LC:=qh lc;have HR:=qh hr;have HK:=qh hk;have HKK:=qh hkk;have KG:=qh hbV;have HV:=qh hV;obtain⟨xa,xn,xc⟩:=x;have HXN:=qh (show xn≤1000000 from hxn);clear hV hbV hx hb ac lc hr hk hkk hxn;change Calls Tryz.prog 16 #[.slice xa xn xc,.agg #[.bool c.t.s,.slice c.t.a c.t.n c.t.c,.bool c.l.s,.slice c.l.a c.l.n c.l.c]] w _;go_enter Tryz.func16,Tryz.ntmps16;go_wp2_with fail
 rw[show w.alloc (.cells #[.bool c.t.s,.slice c.t.a c.t.n c.t.c,.bool c.l.s,.slice c.l.a c.l.n c.l.c] 28)=V from HV.out.symm];with_reducible refine OF.out.mono ?_
 rintro e w1 ⟨z,rfl,hz,hzn,hb1⟩;obtain⟨L,hR,hK,hLP⟩:=hz.rowA (fun t ht=>(HB.out.lq t ht).up HK.out)
 have hl:L.length=P.length:=by rw[← hLP,List.length_map]
 have hP:=HB.out.len
 have WT:=qh (with_any 75 #[.pointer (some ⟨w.heap.size,0,none⟩)] z L (fun e=>(e.1.m,e.2*r)) (k+k2) w1 hR (by
   have:=hR.len;have h5:z.n≤xn:=hzn;have:=HXN.out
   omega) (Nat.le_trans (Nat.mul_le_mul_right _ (by omega)) HKK.out) (fun _ _=>by kernel_rfl)
  (fun e he w2 hb2 ha hl2=>scale1_any e.1 e.2 w2 ha hl2 w.heap.size c r ((B1.out.below hb1 B1.out.lt).below hb2 (Nat.lt_of_lt_of_le B1.out.lt hb1.size)) ((AC.out.below hb1).below hb2) LC.out)
  (fun e he=>hz.small (tm e) (by rw[← hLP];exact List.mem_map_of_mem he)) (fun e he=>((HB.out.lq (tm e) (by rw[← hLP];exact List.mem_map_of_mem he)).ls.mul HR.out.ls).lq (Nat.le_refl _) (Nat.le_refl _)))
 have HL:=qh hLP;have KG:=qk KG hb1;clear hz hzn hb1 hR hK hLP hl hP OF;go_wp2_with fail
 with_reducible refine WT.out.mono ?_
 rintro e w2 ⟨y,rfl,hy,hb2⟩;have HY:=qh hy;have HB2:=qh hb2;clear hy hb2 WT;go_wp2_with fail
 go_ret;refine⟨y,rfl,?_,KG.out.trans (HB2.out.mono KG.out.size)⟩
 have e1:scaleP r P=nf (L.map fun e=>(e.1.m,e.2*r)):=by
  unfold scaleP scaleL;rw[← HL.out,List.map_map]
  rfl
 rw[e1];exact HY.out.mono KG.out.size
structure RE (w:World) (b off i:Nat) (t:TV):Prop where
 lt:b<w.heap.size
 cell:∀ j v,t.cells[j]?=some v→w.cell? ⟨b,off+i*8+j,none⟩=some v
theorem RE.below {w w':World} {b off i:Nat} {t:TV} (h:RE w b off i t) (hb:Below w.heap.size w w'):RE w' b off i t :=
 ⟨Nat.lt_of_lt_of_le h.lt hb.size,fun j v hj=>(hb.cell (p:=⟨b,off+i*8+j,none⟩) h.lt).trans (h.cell j v hj)⟩
theorem RE.eight {w:World} {b off i:Nat} {t:TV} (h:RE w b off i t) :
  w.cell? ⟨b,off+i*8,none⟩=some (.bool t.c.t.s)∧w.cell? ⟨b,off+i*8+1,none⟩=some (.slice t.c.t.a t.c.t.n t.c.t.c)∧w.cell? ⟨b,off+i*8+2,none⟩=some (.bool t.c.l.s)∧w.cell? ⟨b,off+i*8+3,none⟩=some (.slice t.c.l.a t.c.l.n t.c.l.c) ∧
  w.cell? ⟨b,off+i*8+4,none⟩=some (.int .u16 t.m.x)∧w.cell? ⟨b,off+i*8+5,none⟩=some (.int .u16 t.m.y)∧w.cell? ⟨b,off+i*8+6,none⟩=some (.int .u16 t.m.z)∧w.cell? ⟨b,off+i*8+7,none⟩=some (.int .u16 t.m.t) :=
 ⟨h.cell 0 _ rfl,h.cell 1 _ rfl,h.cell 2 _ rfl,h.cell 3 _ rfl,h.cell 4 _ rfl,h.cell 5 _ rfl,h.cell 6 _ rfl,h.cell 7 _ rfl⟩
theorem RT.one {w:World} {a:Option Addr} {ts:List TV} (h:RT w a ts) (hn:ts≠[]):∃ b off,a=some ⟨b,off,none⟩∧∀ i t,ts[i]?=some t→RE w b off i t:=by
 obtain⟨b,off,ha,hc⟩:=h.ex hn;exact⟨b,off,ha,fun i t hi=>⟨block_lt_of_cell (hc i t hi 0 _ rfl),hc i t hi⟩⟩
theorem same_term (t u:TV) (q:Rat) (w:World) (h1:KF w t.c q) (h2:KF w u.c q) (hm:t.m=u.m) (hq:LQ q 900000):Calls Tryz.prog 40 #[TV.v t,TV.v u] w fun e w'=>e=.returned (.bool true)∧Below w.heap.size w w':=by
 obtain⟨V,hV⟩:∃ V,V=(w.alloc (.cells #[.bool t.c.t.s,.slice t.c.t.a t.c.t.n t.c.t.c,.bool t.c.l.s,.slice t.c.l.a t.c.l.n t.c.l.c,.int .u16 t.m.x,.int .u16 t.m.y,.int .u16 t.m.z,.int .u16 t.m.t] 71)).alloc (.cells #[.bool u.c.t.s,.slice u.c.t.a u.c.t.n u.c.t.c,.bool u.c.l.s,.slice u.c.l.a u.c.l.n u.c.l.c,.int .u16 u.m.x,.int .u16 u.m.y,.int .u16 u.m.z,.int .u16 u.m.t] 71):=⟨_,rfl⟩
 have hbV:Below w.heap.size w V:=by rw[hV];exact((Below.refl _ _).alloc (Nat.le_refl _) _).alloc (by go_size) _
 have B1:=qh (show Bxs V w.heap.size 71 [.bool t.c.t.s,.slice t.c.t.a t.c.t.n t.c.t.c,.bool t.c.l.s,.slice t.c.l.a t.c.l.n t.c.l.c,.int .u16 t.m.x,.int .u16 t.m.y,.int .u16 t.m.z,.int .u16 t.m.t] by rw[hV];exact(Bxs.new w 71 [.bool t.c.t.s,.slice t.c.t.a t.c.t.n t.c.t.c,.bool t.c.l.s,.slice t.c.l.a t.c.l.n t.c.l.c,.int .u16 t.m.x,.int .u16 t.m.y,.int .u16 t.m.z,.int .u16 t.m.t]).alloc _)
 have B2:=qh (show Bxs V (w.heap.size+1) 71 [.bool u.c.t.s,.slice u.c.t.a u.c.t.n u.c.t.c,.bool u.c.l.s,.slice u.c.l.a u.c.l.n u.c.l.c,.int .u16 u.m.x,.int .u16 u.m.y,.int .u16 u.m.z,.int .u16 u.m.t] by
  have h:=Bxs.new (w.alloc (.cells #[.bool t.c.t.s,.slice t.c.t.a t.c.t.n t.c.t.c,.bool t.c.l.s,.slice t.c.l.a t.c.l.n t.c.l.c,.int .u16 t.m.x,.int .u16 t.m.y,.int .u16 t.m.z,.int .u16 t.m.t] 71)) 71 [.bool u.c.t.s,.slice u.c.t.a u.c.t.n u.c.t.c,.bool u.c.l.s,.slice u.c.l.a u.c.l.n u.c.l.c,.int .u16 u.m.x,.int .u16 u.m.y,.int .u16 u.m.z,.int .u16 u.m.t];rw[World.size_alloc] at h
  rw[hV];exact h)
 have KG:=qh hbV;have SF:=qh (qsameFr (h1.below hbV) (h1.len hq (Nat.le_refl _)) (h2.below hbV) (h2.len hq (Nat.le_refl _)) rfl);have HV:=qh hV;obtain⟨tc,⟨mx,my,mz,mt⟩⟩:=t;obtain⟨uc,um⟩:=u;change (⟨mx,my,mz,mt⟩:Mo)=um at hm;subst hm;change Calls Tryz.prog 40 #[.agg #[.bool tc.t.s,.slice tc.t.a tc.t.n tc.t.c,.bool tc.l.s,.slice tc.l.a tc.l.n tc.l.c,.int .u16 mx,.int .u16 my,.int .u16 mz,.int .u16 mt],.agg #[.bool uc.t.s,.slice uc.t.a uc.t.n uc.t.c,.bool uc.l.s,.slice uc.l.a uc.l.n uc.l.c,.int .u16 mx,.int .u16 my,.int .u16 mz,.int .u16 mt]] w _;clear hV hbV h1 h2 hq;go_enter Tryz.func40,Tryz.ntmps40
 go_upto_region 1 with (fail)
 rw[show(w.alloc (.cells #[.bool tc.t.s,.slice tc.t.a tc.t.n tc.t.c,.bool tc.l.s,.slice tc.l.a tc.l.n tc.l.c,.int .u16 mx,.int .u16 my,.int .u16 mz,.int .u16 mt] 71)).alloc (.cells #[.bool uc.t.s,.slice uc.t.a uc.t.n uc.t.c,.bool uc.l.s,.slice uc.l.a uc.l.n uc.l.c,.int .u16 mx,.int .u16 my,.int .u16 mz,.int .u16 mt] 71)=V from HV.out.symm];have c10:=B1.out.cell (i:=0) rfl;have c11:=B1.out.cell (i:=1) rfl;have c12:=B1.out.cell (i:=2) rfl;have c13:=B1.out.cell (i:=3) rfl;have c14:=B1.out.cell (i:=4) rfl;have c15:=B1.out.cell (i:=5) rfl;have c16:=B1.out.cell (i:=6) rfl;have c17:=B1.out.cell (i:=7) rfl;have c20:=B2.out.cell (i:=0) rfl;have c21:=B2.out.cell (i:=1) rfl;have c22:=B2.out.cell (i:=2) rfl;have c23:=B2.out.cell (i:=3) rfl;have c24:=B2.out.cell (i:=4) rfl;have c25:=B2.out.cell (i:=5) rfl;have c26:=B2.out.cell (i:=6) rfl;have c27:=B2.out.cell (i:=7) rfl;go_wp2_with fail
 with_reducible refine SF.out.mono ?_
 rintro e w1 ⟨rfl,hb⟩;have KG:=qk KG hb;have B1:=qh (B1.out.below hb B1.out.lt);have B2:=qh (B2.out.below hb B2.out.lt);clear hb SF c10 c11 c12 c13 c14 c15 c16 c17 c20 c21 c22 c23 c24 c25 c26 c27;have c10:=B1.out.cell (i:=0) rfl;have c11:=B1.out.cell (i:=1) rfl;have c12:=B1.out.cell (i:=2) rfl;have c13:=B1.out.cell (i:=3) rfl;have c14:=B1.out.cell (i:=4) rfl;have c15:=B1.out.cell (i:=5) rfl;have c16:=B1.out.cell (i:=6) rfl;have c17:=B1.out.cell (i:=7) rfl;have c20:=B2.out.cell (i:=0) rfl;have c21:=B2.out.cell (i:=1) rfl;have c22:=B2.out.cell (i:=2) rfl;have c23:=B2.out.cell (i:=3) rfl;have c24:=B2.out.cell (i:=4) rfl;have c25:=B2.out.cell (i:=5) rfl;have c26:=B2.out.cell (i:=6) rfl;have c27:=B2.out.cell (i:=7) rfl;go_wp2_with fail
 go_ret;exact⟨rfl,KG.out⟩
theorem same_k (x y:PV) (P:List Tm) (w:World) (hx:KP w x P) (hy:KP w y P) (hp:∀ t∈P,LQ t.2 900000) (hn:P.length≤1000000):Calls Tryz.prog 18 #[x.v,y.v] w fun e w'=>e=.returned (.bool true)∧Below w.heap.size w w':=by
 have hxl:=hx.len;have hyl:=hy.len;obtain⟨xa,xn,xc⟩:=x;obtain⟨ya,n,yc⟩:=y;change xn=P.length at hxl;change n=P.length at hyl;obtain rfl:xn=n:=hxl.trans hyl.symm;obtain⟨L1,g1,g2,g3,g4⟩:=hx.ex;obtain⟨L2,k3,k4,k5,k6⟩:=hy.ex;have HP:=qh hp;have HNN:=qh (show xn≤1000000 by rw[hyl];exact hn);have R1:=qh g1;have R2:=qh k3;have F1:=qh g3;have F2:=qh k5;have T1:=qh g4;have T2:=qh k6;have N1:=qh (show L1.length=xn from g2);have N2:=qh (show L2.length=xn from k4);change Calls Tryz.prog 18 #[.slice xa xn xc,.slice ya xn yc] w _;clear hx hy hp hn hxl hyl g1 g2 g3 g4 k3 k4 k5 k6;go_enter Tryz.func18,Tryz.ntmps18;go_wp2_with fail
 go_loopw [5] (fun i wr=>∃ j:Nat,j≤xn∧i=.int .i64 j∧Below w.heap.size w wr) (fun i _=>xn-(intOf i).toNat)
 case atStart =>
  exact⟨0,Nat.zero_le _,rfl,Below.refl _ _⟩
 case round =>
  obtain⟨j,hj,rfl,hb0⟩:=hrel;have HJ:=qh hj;have KG:=qh hb0;clear hj hb0
  by_cases hjn:j<xn
  ·have HJN:=qh hjn
   have h1l:j<L1.length:=by rw[N1.out];exact hjn
   have h2l:j<L2.length:=by rw[N2.out];exact hjn
   obtain⟨pb,po,rfl,hc1⟩:=(R1.out.below KG.out).one (fun h=>by rw[List.map_eq_nil_iff] at h;rw[h] at h1l;simp at h1l);obtain⟨qb,qo,rfl,hc2⟩:=(R2.out.below KG.out).one (fun h=>by rw[List.map_eq_nil_iff] at h;rw[h] at h2l;simp at h2l);obtain⟨⟨t,q⟩,he1⟩:∃ e,L1[j]?=some e:=⟨_,List.getElem?_eq_getElem h1l⟩;obtain⟨⟨u,r⟩,he2⟩:∃ e,L2[j]?=some e:=⟨_,List.getElem?_eq_getElem h2l⟩;have E1:=qh (hc1 j t (by rw[List.getElem?_map,he1];rfl));have E2:=qh (hc2 j u (by rw[List.getElem?_map,he2];rfl))
   have p1:P[j]?=some (t.m,q):=by rw[← T1.out,List.getElem?_map,he1];rfl
   have p2:P[j]?=some (u.m,r):=by rw[← T2.out,List.getElem?_map,he2];rfl
   have pe:(t.m,q)=(u.m,r):=Option.some.inj (p1.symm.trans p2);have HMM:=qh (show t.m=u.m from congrArg Prod.fst pe);obtain rfl:q=r:=congrArg Prod.snd pe;have NT:=qh (show KF wr t.c q from(F1.out _ (List.mem_of_getElem? he1)).below KG.out);have NU:=qh (show KF wr u.c q from(F2.out _ (List.mem_of_getElem? he2)).below KG.out);have LQq:=qh (HP.out _ (List.mem_of_getElem? p1));have ek:IntKind.i64.wrap ((j:Int)+1)=(j:Int)+1:=IntWalk.i64_in _ (by have:=HJN.out;have:=HNN.out;omega);clear hc1 hc2 he1 he2 p1 p2 pe h1l h2l
   go_upto_region 6 with (fail)
   refine FS.wp_region_fresh 9 [] (FS.spOf [(8,FS.Sp.know (.bool true))])
    (fun w'=>Below wr.heap.size wr w') (by kernel_rfl) (by kernel_rfl) (by kernel_rfl)
    (FS.spOf_cons (FS.Sp.know_keeps _ _) (FS.spOf_nil)) (fun _ _ h hb=>h.trans (hb.mono h.size)) ((Below.refl _ _).drew) ?_
   simp only[List.append_eq,List.cons_append,List.nil_append,List.take_succ_cons,List.take_zero,List.drop_succ_cons,List.drop_zero]
   iterate 8
    refine FS.wpF_reads rfl rfl rfl ?_ (fun w' hw'=>?_) ?_;rotate_left
    ·have hb':=hw'.world;obtain⟨hs0,hs1,hs2,hs3,hs4,hs5,hs6,hs7⟩:=(E1.out.below hb').eight;obtain⟨hs0,hs1,hs2,hs3,hs4,hs5,hs6,hs7⟩:=(E2.out.below hb').eight;clear hw';go_simp
     try rfl
    conv=>arg 10;simp only[Act.put,zq0,zq1,zq2]
   refine FS.wpF_spec rfl rfl rfl (fun w' hw'=>?_) ?_
   ·have hb':=hw'.world;refine FS.gives_of (FS.PK (.bool true)) ?_ (fun _ _ h=>h.post);go_simp;have CT:=same_term t u q w' (NT.out.below hb') (NU.out.below hb') HMM.out LQq.out;refine CT.mono ?_;rintro e w'' ⟨rfl,hb⟩;exact⟨_,rfl,rfl,hb⟩
   rintro _ rfl
   conv=>arg 10;simp only[Act.put,zq0,zq1,zq2]
   refine FS.wpF_nil (fun w101 hb hF=>?_);clear hF;have KG:=qk KG hb;clear hb;go_wp2_with fail
   go_roundw
   case rel =>
    exact⟨j+1,by have:=HJN.out;omega,rfl,KG.out⟩
   case measure=>simp[intOf];have:=HJN.out;omega
  ·have hge:¬((j:Int)<(xn:Int)):=by omega
   clear hjn;go_wp2_with fail
   go_ret;exact⟨rfl,KG.out⟩
def IR (w:World) (e:Ending) (w':World):Prop:=∃ z:Int,e=.returned (.int .i64 z)∧Below w.heap.size w w'
theorem IR.is {w w':World} (z:Int) (h:Below w.heap.size w w'):IR w (.returned (.int .i64 z)) w':=⟨z,rfl,h⟩
def BR (w:World) (Φ:Prop) (e:Ending) (w':World):Prop:=∃ b:Bool,e=.returned (.bool b)∧(b=false→Φ)∧Below w.heap.size w w'
theorem BR.yes {w w':World} {Φ:Prop} (h:Below w.heap.size w w'):BR w Φ (.returned (.bool true)) w':=⟨true,rfl,nofun,h⟩
theorem BR.no {w w':World} {Φ:Prop} (h:Below w.heap.size w w') (hp:Φ):BR w Φ (.returned (.bool false)) w':=⟨false,rfl,fun _=>hp,h⟩
theorem limbs_size (a:Option Addr) (n c:Nat) (w:World):Calls Tryz.prog 169 #[.slice a n c] w fun e w'=>IR w e w':=by
 go_enter Tryz.func169,Tryz.ntmps169;go_wp2_with fail
 go_ret;exact IR.is _ (Below.refl _ _)
theorem num_size (s:Bool) (a:Option Addr) (n c:Nat) (w:World):Calls Tryz.prog 66 #[.agg #[.bool s,.slice a n c]] w fun e w'=>IR w e w':=by
 obtain⟨V,hV⟩:∃ V,V=w.alloc (.cells #[.bool s,.slice a n c] 26):=⟨_,rfl⟩
 have hbV:Below w.heap.size w V:=by rw[hV];exact(Below.refl _ _).alloc (Nat.le_refl _) _
 have B1:=qh (show Bxs V w.heap.size 26 [.bool s,.slice a n c] by rw[hV];exact Bxs.new w 26 [.bool s,.slice a n c]);have KG:=qh hbV;have HV:=qh hV;clear hV hbV;go_enter Tryz.func66,Tryz.ntmps66
 go_upto_region 1 with (fail)
 rw[show w.alloc (.cells #[.bool s,.slice a n c] 26)=V from HV.out.symm];have c0:=B1.out.cell (i:=0) rfl;have c1:=B1.out.cell (i:=1) rfl;go_wp2_with fail
 with_reducible refine(limbs_size _ _ _ _).mono ?_
 rintro e w1 ⟨zw1,rfl,hb⟩;have KG:=qk KG hb;have B1:=qh (B1.out.below hb B1.out.lt);clear hb c0 c1;go_wp2_with fail
 go_ret;exact IR.is _ KG.out
theorem frac_size (x:FV) (w:World):Calls Tryz.prog 11 #[x.v] w fun e w'=>IR w e w':=by
 obtain⟨V,hV⟩:∃ V,V=w.alloc (.cells #[.bool x.t.s,.slice x.t.a x.t.n x.t.c,.bool x.l.s,.slice x.l.a x.l.n x.l.c] 28):=⟨_,rfl⟩
 have hbV:Below w.heap.size w V:=by rw[hV];exact(Below.refl _ _).alloc (Nat.le_refl _) _
 have B1:=qh (show Bxs V w.heap.size 28 [.bool x.t.s,.slice x.t.a x.t.n x.t.c,.bool x.l.s,.slice x.l.a x.l.n x.l.c] by rw[hV];exact Bxs.new w 28 [.bool x.t.s,.slice x.t.a x.t.n x.t.c,.bool x.l.s,.slice x.l.a x.l.n x.l.c]);have KG:=qh hbV;have HV:=qh hV;clear hV hbV;change Calls Tryz.prog 11 #[.agg #[.bool x.t.s,.slice x.t.a x.t.n x.t.c,.bool x.l.s,.slice x.l.a x.l.n x.l.c]] w _;go_enter Tryz.func11,Tryz.ntmps11
 go_upto_region 1 with (fail)
 rw[show w.alloc (.cells #[.bool x.t.s,.slice x.t.a x.t.n x.t.c,.bool x.l.s,.slice x.l.a x.l.n x.l.c] 28)=V from HV.out.symm];have c0:=B1.out.cell (i:=0) rfl;have c1:=B1.out.cell (i:=1) rfl;have c2:=B1.out.cell (i:=2) rfl;have c3:=B1.out.cell (i:=3) rfl;go_wp2_with fail
 with_reducible refine(num_size _ _ _ _ _).mono ?_
 rintro e w1 ⟨zw1,rfl,hb⟩;have KG:=qk KG hb;have B1:=qh (B1.out.below hb B1.out.lt);clear hb c0 c1 c2 c3
 by_cases h:wrap64 (1+zw1)≤1048576
 ·have c0:=B1.out.cell (i:=0) rfl;have c1:=B1.out.cell (i:=1) rfl;have c2:=B1.out.cell (i:=2) rfl;have c3:=B1.out.cell (i:=3) rfl;go_wp2_with fail
  with_reducible refine(num_size _ _ _ _ _).mono ?_
  rintro e w2 ⟨z2,rfl,hb⟩;have KG:=qk KG hb;clear hb c0 c1 c2 c3;go_wp2_with fail
  go_ret;exact IR.is _ KG.out
 ·have h2:1048576<wrap64 (1+zw1):=by omega
  go_wp2_with fail
  go_ret;exact IR.is _ KG.out
theorem term_size (t:TV) (w:World):Calls Tryz.prog 168 #[TV.v t] w fun e w'=>IR w e w':=by
 obtain⟨V,hV⟩:∃ V,V=w.alloc (.cells #[.bool t.c.t.s,.slice t.c.t.a t.c.t.n t.c.t.c,.bool t.c.l.s,.slice t.c.l.a t.c.l.n t.c.l.c,.int .u16 t.m.x,.int .u16 t.m.y,.int .u16 t.m.z,.int .u16 t.m.t] 71):=⟨_,rfl⟩
 have hbV:Below w.heap.size w V:=by rw[hV];exact(Below.refl _ _).alloc (Nat.le_refl _) _
 have B1:=qh (show Bxs V w.heap.size 71 [.bool t.c.t.s,.slice t.c.t.a t.c.t.n t.c.t.c,.bool t.c.l.s,.slice t.c.l.a t.c.l.n t.c.l.c,.int .u16 t.m.x,.int .u16 t.m.y,.int .u16 t.m.z,.int .u16 t.m.t] by rw[hV];exact Bxs.new w 71 [.bool t.c.t.s,.slice t.c.t.a t.c.t.n t.c.t.c,.bool t.c.l.s,.slice t.c.l.a t.c.l.n t.c.l.c,.int .u16 t.m.x,.int .u16 t.m.y,.int .u16 t.m.z,.int .u16 t.m.t]);have KG:=qh hbV;have HV:=qh hV;clear hV hbV;change Calls Tryz.prog 168 #[.agg #[.bool t.c.t.s,.slice t.c.t.a t.c.t.n t.c.t.c,.bool t.c.l.s,.slice t.c.l.a t.c.l.n t.c.l.c,.int .u16 t.m.x,.int .u16 t.m.y,.int .u16 t.m.z,.int .u16 t.m.t]] w _;go_enter Tryz.func168,Tryz.ntmps168
 go_upto_region 1 with (fail)
 rw[show w.alloc (.cells #[.bool t.c.t.s,.slice t.c.t.a t.c.t.n t.c.t.c,.bool t.c.l.s,.slice t.c.l.a t.c.l.n t.c.l.c,.int .u16 t.m.x,.int .u16 t.m.y,.int .u16 t.m.z,.int .u16 t.m.t] 71)=V from HV.out.symm];have c0:=B1.out.cell (i:=0) rfl;have c1:=B1.out.cell (i:=1) rfl;have c2:=B1.out.cell (i:=2) rfl;have c3:=B1.out.cell (i:=3) rfl;have c4:=B1.out.cell (i:=4) rfl;have c5:=B1.out.cell (i:=5) rfl;have c6:=B1.out.cell (i:=6) rfl;have c7:=B1.out.cell (i:=7) rfl;go_wp2_with fail
 with_reducible refine(frac_size t.c _).mono ?_
 rintro e w1 ⟨zw1,rfl,hb⟩;have KG:=qk KG hb;have B1:=qh (B1.out.below hb B1.out.lt);clear hb c0 c1 c2 c3 c4 c5 c6 c7;go_wp2_with fail
 go_ret;exact IR.is _ KG.out
theorem poly_size (x:PV) (ts:List TV) (w:World) (hr:RT w x.a ts) (hl:ts.length=x.n) (hn:x.n≤1000000000):Calls Tryz.prog 65 #[x.v] w fun e w'=>IR w e w':=by
 obtain⟨xa,xn,xc⟩:=x;have HR:=qh hr;have HL:=qh (show ts.length=xn from hl);have HN:=qh (show xn≤1000000000 from hn);change Calls Tryz.prog 65 #[.slice xa xn xc] w _;clear hr hl hn;go_enter Tryz.func65,Tryz.ntmps65;go_wp2_with fail
 go_loopw [3,4] (fun s i wr=>∃ (j:Nat) (z:Int),j≤xn∧i=.int .i64 j∧s=.int .i64 z∧Below w.heap.size w wr) (fun _ i _=>xn-(intOf i).toNat)
 case atStart =>
  exact⟨0,_,Nat.zero_le _,rfl,rfl,Below.refl _ _⟩
 case round =>
  obtain⟨j,z,hj,rfl,rfl,hb0⟩:=hrel;have HJ:=qh hj;have KG:=qh hb0;clear hj hb0
  by_cases hjn:j<xn
  ·by_cases hz:z≤1048576
   ·have HJN:=qh hjn
    have hjl:j<ts.length:=by rw[HL.out];exact hjn
    obtain⟨pb,po,rfl,hc⟩:=(HR.out.below KG.out).one (fun h=>by rw[h] at hjl;simp at hjl);obtain⟨t,he⟩:∃ t,ts[j]?=some t:=⟨_,List.getElem?_eq_getElem hjl⟩;obtain⟨c0,c1,c2,c3,c4,c5,c6,c7⟩:=(hc j t he).eight;have ek:IntKind.i64.wrap ((j:Int)+1)=(j:Int)+1:=IntWalk.i64_in _ (by have:=HJN.out;have:=HN.out;omega);clear hc he hjl;go_wp2_with fail
    with_reducible refine(term_size t _).mono ?_
    rintro e w1 ⟨z1,rfl,hb⟩;have KG:=qk KG hb;clear hb c0 c1 c2 c3 c4 c5 c6 c7;go_wp2_with fail
    go_roundw
    case rel =>
     exact⟨j+1,_,by have:=HJN.out;omega,rfl,rfl,KG.out⟩
    case measure=>simp[intOf];have:=HJN.out;omega
   ·have hz2:1048576<z:=by omega
    go_wp2_with fail
    go_ret;exact IR.is _ KG.out
  ·have hge:¬((j:Int)<(xn:Int)):=by omega
   clear hjn;go_wp2_with fail
   go_ret;exact IR.is _ KG.out
def NotGreat (m:Nat) (ts:List TV):Prop:=ts.length≤m∧∀ t∈ts,t.c.t.n≤4∧t.c.l.n≤1
def NoneGreat (m:Nat) (Xs:List (PV × List TV)):Prop:=∀ e∈Xs,NotGreat m e.2
theorem pgreat_any (g m k:Nat) (Xs:List (PV × List TV)) (w:World) (hk:Xs.length=k) (hc:∀ i e,Xs[i]?=some e→w.cell? ⟨g,i,none⟩=some e.1.v) (hr:∀ e∈Xs,RT w e.1.a e.2∧e.2.length=e.1.n)
  (hn:Xs.length≤1000) (hm:m≤1000) :
  Calls Tryz.prog 10 #[.int .i64 m,.slice (some ⟨g,0,none⟩) k k] w (BR w (NoneGreat m Xs)):=by
 have HK:=qh hk;have HC:=qh hc;have HR:=qh hr;have HN:=qh hn;have HM:=qh hm;clear hk hc hr hn hm;go_enter Tryz.func10,Tryz.ntmps10;go_wp2_with fail
 go_loopw [5] (fun i wr=>∃ j:Nat,j≤k∧i=.int .i64 j∧(∀ i e,Xs[i]?=some e→i<j→NotGreat m e.2)∧Below w.heap.size w wr) (fun i _=>k-(intOf i).toNat)
 case atStart =>
  exact⟨0,Nat.zero_le _,rfl,fun i e _ h=>absurd h (Nat.not_lt_zero _),Below.refl _ _⟩
 case round =>
  obtain⟨j,hj,rfl,hg,hb0⟩:=hrel;have HJ:=qh hj;have HG:=qh hg;have KG:=qh hb0;clear hj hg hb0
  by_cases hjn:j<k
  ·have HJN:=qh hjn;obtain⟨⟨⟨xa,xn,xc⟩,ts⟩,he⟩:∃ e,Xs[j]?=some e:=⟨_,List.getElem?_eq_getElem (by rw[HK.out];exact hjn)⟩;have HE:=qh he;have CG:=qh (show ∀ w2,Below w.heap.size w w2→w2.cell? ⟨g,j,none⟩=some (.slice xa xn xc) from fun (w2:World) (h:Below w.heap.size w w2)=>(h.cell (p:=⟨g,j,none⟩) (block_lt_of_cell (HC.out j _ he))).trans (HC.out j _ he));have c0:=CG.out _ KG.out;obtain⟨r1,r2⟩:=HR.out _ (List.mem_of_getElem? he);have RX:=qh r1;have LX:=qh (show ts.length=xn from r2);have ek:IntKind.i64.wrap ((j:Int)+1)=(j:Int)+1:=IntWalk.i64_in _ (by have:=HJN.out;have:=HK.out;have:=HN.out;omega);have em:IntKind.i64.wrap (40*(m:Int))=40*(m:Int):=IntWalk.i64_in _ (by have:=HM.out;omega);clear he r1 r2
   by_cases hxm:xn≤m
   ·have HXM:=qh hxm;have NX:=qh (show xn≤1000000000 by have:=HM.out;omega)
    have h1:¬((xn:Int)>(m:Int)):=by omega
    have h2:¬((m:Int)<(xn:Int)):=by omega
    have PS:=qh (poly_size ⟨xa,xn,xc⟩ ts wr (RX.out.below KG.out) LX.out NX.out);clear hxm;go_wp2_with fail
    with_reducible refine PS.out.mono ?_
    rintro e w1 ⟨z,rfl,hb⟩;have KG:=qk KG hb;clear hb PS c0
    by_cases hz:z>40*(m:Int)
    ·have hz2:40*(m:Int)<z:=hz;go_wp2_with fail
     go_ret;exact BR.yes KG.out
    ·have hz2:¬(40*(m:Int)<z):=hz;go_wp2_with fail
     go_loopw [6] (fun i wr=>∃ l:Nat,l≤xn∧i=.int .i64 l∧(∀ i t,ts[i]?=some t→i<l→t.c.t.n≤4∧t.c.l.n≤1)∧Below w.heap.size w wr) (fun i _=>xn-(intOf i).toNat)
     case atStart =>
      exact⟨0,Nat.zero_le _,rfl,fun i e _ h=>absurd h (Nat.not_lt_zero _),KG.out⟩
     case round =>
      obtain⟨l,hl,rfl,hg2,hb0⟩:=hrel;have HL:=qh hl;have HG2:=qh hg2;have KG:=qh hb0;clear hl hg2 hb0;have c0:=CG.out _ KG.out
      by_cases hln:l<xn
      ·have HLN:=qh hln
       have hll:l<ts.length:=by rw[LX.out];exact hln
       obtain⟨pb,po,rfl,hc⟩:=(RX.out.below KG.out).one (fun h=>by rw[h] at hll;simp at hll);obtain⟨t,ht⟩:∃ t,ts[l]?=some t:=⟨_,List.getElem?_eq_getElem hll⟩;obtain⟨d0,d1,d2,d3,d4,d5,d6,d7⟩:=(hc l t ht).eight;have HT:=qh ht;have el:IntKind.i64.wrap ((l:Int)+1)=(l:Int)+1:=IntWalk.i64_in _ (by have:=HLN.out;have:=NX.out;omega);clear hc ht hll
       by_cases h4:t.c.t.n≤4
       ·have g1:¬((t.c.t.n:Int)>4):=by omega
        have g2:¬((4:Int)<(t.c.t.n:Int)):=by omega
        by_cases h5:t.c.l.n≤1
        ·have g3:¬((t.c.l.n:Int)>1):=by omega
         have g4:¬((1:Int)<(t.c.l.n:Int)):=by omega
         have H45:=qh (show t.c.t.n≤4∧t.c.l.n≤1 from⟨h4,h5⟩);clear h4 h5;go_wp2_with fail
         go_roundw
         case rel =>
          refine⟨l+1,by have:=HLN.out;omega,rfl,fun i t' h1 h2=>?_,KG.out⟩
          by_cases h3:i<l
          ·exact HG2.out i t' h1 h3
          ·obtain rfl:i=l:=by omega
           rw[HT.out] at h1;obtain rfl:=Option.some.inj h1;exact H45.out
         case measure=>simp[intOf];have:=HLN.out;omega
        ·have g3:(t.c.l.n:Int)>1:=by omega
         have g4:(1:Int)<(t.c.l.n:Int):=by omega
         clear h4 h5;go_wp2_with fail
         go_ret;exact BR.yes KG.out
       ·have g1:(t.c.t.n:Int)>4:=by omega
        have g2:(4:Int)<(t.c.t.n:Int):=by omega
        clear h4;go_wp2_with fail
        go_ret;exact BR.yes KG.out
      ·have hge:¬((l:Int)<(xn:Int)):=by omega
       have HLE:=qh (show l=xn by have:=HL.out;omega);clear hln;go_wp2_with fail
       go_roundw
       case rel =>
        refine⟨j+1,by have:=HJN.out;omega,rfl,fun i e' h1 h2=>?_,KG.out⟩
        by_cases h3:i<j
        ·exact HG.out i e' h1 h3
        ·obtain rfl:i=j:=by omega
         rw[HE.out] at h1;obtain rfl:=Option.some.inj h1;refine⟨by have h5:=LX.out;have h6:=HXM.out;show ts.length≤m;omega,fun t ht=>?_⟩;obtain⟨i2,h7⟩:=List.mem_iff_getElem?.1 (show t∈ts from ht);exact HG2.out i2 t h7 (by have h8:=(List.getElem?_eq_some_iff.1 h7).1;have h5:=LX.out;have h9:=HLE.out;omega)
       case measure=>simp[intOf];have:=HJN.out;omega
   ·have h1:(xn:Int)>(m:Int):=by omega
    have h2:(m:Int)<(xn:Int):=by omega
    clear hxm;go_wp2_with fail
    go_ret;exact BR.yes KG.out
  ·have hge:¬((j:Int)<(k:Int)):=by omega
   have HJE:=qh (show j=k by have:=HJ.out;omega);clear hjn;go_wp2_with fail
   go_ret
   refine BR.no KG.out fun e he=>?_
   obtain⟨i,h⟩:=List.mem_iff_getElem?.1 he;exact HG.out i e h (by have h8:=(List.getElem?_eq_some_iff.1 h).1;have h9:=HJE.out;have:=HK.out;omega)
structure TwN (w:World) (lo:Nat) (t x:NV) (o:Nat→Int):Prop where
 s:t.s=x.s
 n:t.n=x.n
 c:t.c=x.n+1
 own:Limb.Own 160 w lo t.a (x.n+1) (x.n+1) (tw o x.n)
structure TwF (w:World) (lo:Nat) (t x:FV) (o1 o2:Nat→Int):Prop where
 top:TwN w lo t.t x.t o1
 low:TwN w lo t.l x.l o2
 ap:Apart2 t.t.a t.l.a
theorem TwN.kept {w w':World} {lo:Nat} {t x:NV} {o:Nat→Int} (h:TwN w lo t x o) (hk:∀ b,t.blk b→w'.heap[b]?=w.heap[b]?):TwN w' lo t x o:=⟨h.s,h.n,h.c,h.own.kept hk⟩
theorem TwN.blks {w:World} {lo:Nat} {t x:NV} {o:Nat→Int} (h:TwN w lo t x o):∀ b,t.blk b→lo≤b∧b<w.heap.size:=fun b ⟨p,hp,e⟩=>by
 rcases h.own.place with h0 | ⟨g,cur,ha,hlo,hg,_⟩
 ·rw[h0.1] at hp;cases hp
 ·rw[ha] at hp
  cases hp
  subst e;exact⟨hlo,lt_of_block hg⟩
theorem TwN.below {w w':World} {lo:Nat} {t x:NV} {o:Nat→Int} (h:TwN w lo t x o) (hb:Below w.heap.size w w'):TwN w' lo t x o:=h.kept fun b h1=>hb.block b (h.blks b h1).2
theorem TwN.mono {w:World} {lo lo':Nat} {t x:NV} {o:Nat→Int} (h:TwN w lo t x o) (hl:lo'≤lo):TwN w lo' t x o:=⟨h.s,h.n,h.c,h.own.mono hl⟩
theorem TwF.kept {w w':World} {lo:Nat} {t x:FV} {o1 o2:Nat→Int} (h:TwF w lo t x o1 o2) (hk:∀ b,FV.blk t b→w'.heap[b]?=w.heap[b]?):TwF w' lo t x o1 o2:=⟨h.top.kept fun b hb=>hk b (Or.inl hb),h.low.kept fun b hb=>hk b (Or.inr hb),h.ap⟩
theorem TwF.blks {w:World} {lo:Nat} {t x:FV} {o1 o2:Nat→Int} (h:TwF w lo t x o1 o2):∀ b,FV.blk t b→lo≤b∧b<w.heap.size:=fun b hb=>hb.elim (h.top.blks b) (h.low.blks b)
theorem TwF.below {w w':World} {lo:Nat} {t x:FV} {o1 o2:Nat→Int} (h:TwF w lo t x o1 o2) (hb:Below w.heap.size w w'):TwF w' lo t x o1 o2:=⟨h.top.below hb,h.low.below hb,h.ap⟩
theorem TwF.mono {w:World} {lo lo':Nat} {t x:FV} {o1 o2:Nat→Int} (h:TwF w lo t x o1 o2) (hl:lo'≤lo):TwF w lo' t x o1 o2:=⟨h.top.mono hl,h.low.mono hl,h.ap⟩
theorem TwF.put {w:World} {lo:Nat} {t x:FV} {o1 o2:Nat→Int} (h:TwF w lo t x o1 o2) {b:Nat} (hb:∀ g,FV.blk t g→g≠b) (v0 v1 v2 v3 v4 v5 v6 v7:Value):TwF (put8 w b v0 v1 v2 v3 v4 v5 v6 v7) lo t x o1 o2:=by
 have h1:∀ (u:World) (i:Nat) (v:Value) (g:Nat),g≠b→(u.setCell ⟨b,i,none⟩ v).heap[g]?=u.heap[g]?:=fun u i v g hne=>Below.heap_setCell _ _ _ _ hne
 refine h.kept fun g hg=>?_
 have hne:=hb g hg;unfold put8;rw[h1 _ _ _ _ hne,h1 _ _ _ _ hne,h1 _ _ _ _ hne,h1 _ _ _ _ hne,h1 _ _ _ _ hne,h1 _ _ _ _ hne,h1 _ _ _ _ hne,h1 _ _ _ _ hne]
theorem twinF_any (x:FV) (o1 o2:Nat→Int) (w:World) (h1:Rd w x.t.a x.t.n o1) (hn1:x.t.n≤100000000) (h2:Rd w x.l.a x.l.n o2) (hn2:x.l.n≤100000000) :
  Calls Tryz.prog 13 #[x.v] w fun e w'=>∃ y:FV,e=.returned y.v∧TwF w' w.heap.size y x o1 o2∧Below w.heap.size w w' :=
 (twinFrac_any x.t.s x.t.a x.t.n x.t.c o1 x.l.s x.l.a x.l.n x.l.c o2 w h1 hn1 h2 hn2).mono fun e w' ⟨g1,g2,he,p1,p2,hne,hb⟩ =>
  ⟨⟨⟨x.t.s,some ⟨g1,0,none⟩,x.t.n,x.t.n+1⟩,⟨x.l.s,some ⟨g2,0,none⟩,x.l.n,x.l.n+1⟩⟩,he,⟨⟨rfl,rfl,rfl,p1⟩,⟨rfl,rfl,rfl,p2⟩,fun p q hp hq=>by cases hp;cases hq;exact hne⟩,hb⟩
theorem twinTerm_any (t:TV) (o1 o2:Nat→Int) (w:World) (h1:Rd w t.c.t.a t.c.t.n o1) (hn1:t.c.t.n≤100000000) (h2:Rd w t.c.l.a t.c.l.n o2) (hn2:t.c.l.n≤100000000) :
  Calls Tryz.prog 67 #[TV.v t] w fun e w'=>∃ y:FV,e=.returned (TV.v ⟨y,t.m⟩)∧TwF w' w.heap.size y t.c o1 o2∧Below w.heap.size w w':=by
 obtain⟨V,hV⟩:∃ V,V=(w.alloc (.cells #[.bool t.c.t.s,.slice t.c.t.a t.c.t.n t.c.t.c,.bool t.c.l.s,.slice t.c.l.a t.c.l.n t.c.l.c,.int .u16 t.m.x,.int .u16 t.m.y,.int .u16 t.m.z,.int .u16 t.m.t] 71)).alloc (.cells #[.bool false,.slice none 0 0,.bool false,.slice none 0 0,.int .u16 0,.int .u16 0,.int .u16 0,.int .u16 0] 71):=⟨_,rfl⟩
 have hbV:Below w.heap.size w V:=by rw[hV];exact((Below.refl _ _).alloc (Nat.le_refl _) _).alloc (by go_size) _
 have B1:=qh (show Bxs V w.heap.size 71 [.bool t.c.t.s,.slice t.c.t.a t.c.t.n t.c.t.c,.bool t.c.l.s,.slice t.c.l.a t.c.l.n t.c.l.c,.int .u16 t.m.x,.int .u16 t.m.y,.int .u16 t.m.z,.int .u16 t.m.t] by rw[hV];exact(Bxs.new w 71 [.bool t.c.t.s,.slice t.c.t.a t.c.t.n t.c.t.c,.bool t.c.l.s,.slice t.c.l.a t.c.l.n t.c.l.c,.int .u16 t.m.x,.int .u16 t.m.y,.int .u16 t.m.z,.int .u16 t.m.t]).alloc _)
 have B2:=qh (show Bxs V (w.heap.size+1) 71 [.bool false,.slice none 0 0,.bool false,.slice none 0 0,.int .u16 0,.int .u16 0,.int .u16 0,.int .u16 0] by
  have h:=Bxs.new (w.alloc (.cells #[.bool t.c.t.s,.slice t.c.t.a t.c.t.n t.c.t.c,.bool t.c.l.s,.slice t.c.l.a t.c.l.n t.c.l.c,.int .u16 t.m.x,.int .u16 t.m.y,.int .u16 t.m.z,.int .u16 t.m.t] 71)) 71 [.bool false,.slice none 0 0,.bool false,.slice none 0 0,.int .u16 0,.int .u16 0,.int .u16 0,.int .u16 0];rw[World.size_alloc] at h
  rw[hV];exact h)
 have HR1:=qh (h1.below hbV);have HR2:=qh (h2.below hbV);have HN1:=qh hn1;have HN2:=qh hn2;have KG:=qh hbV;have HV:=qh hV;obtain⟨A2,hA2⟩:∃ A,A=w.heap.size+1:=⟨_,rfl⟩;have HA2:=qh (show w.heap.size≤A2 by omega);rw[← hA2] at B2;have HA3:=qh hA2;have HAV:=qh B2.out.lt;have HSZ:=qh KG.out.size;clear hV hbV h1 h2 hn1 hn2 hA2;change Calls Tryz.prog 67 #[.agg #[.bool t.c.t.s,.slice t.c.t.a t.c.t.n t.c.t.c,.bool t.c.l.s,.slice t.c.l.a t.c.l.n t.c.l.c,.int .u16 t.m.x,.int .u16 t.m.y,.int .u16 t.m.z,.int .u16 t.m.t]] w _;go_enter Tryz.func67,Tryz.ntmps67
 go_upto_region 1 with (fail)
 rw[show(w.alloc (.cells #[.bool t.c.t.s,.slice t.c.t.a t.c.t.n t.c.t.c,.bool t.c.l.s,.slice t.c.l.a t.c.l.n t.c.l.c,.int .u16 t.m.x,.int .u16 t.m.y,.int .u16 t.m.z,.int .u16 t.m.t] 71)).alloc (.cells #[.bool false,.slice none 0 0,.bool false,.slice none 0 0,.int .u16 0,.int .u16 0,.int .u16 0,.int .u16 0] 71)=V from HV.out.symm,show w.heap.size+1=A2 from HA3.out.symm]
 go_upto_region 1 with (fail)
 refine FS.wp_region_fresh 6 [] (FS.spOf [(2,FS.Sp.made (fun x:FV=>x.v) (fun x w'=>TwF w' V.heap.size x t.c o1 o2) FV.blk)])
  (fun w'=>Below V.heap.size V w') (by kernel_rfl) (by kernel_rfl) (by kernel_rfl)
  (FS.spOf_cons (FS.Sp.made_keeps _ (fun _ _ _ h _ hk=>h.kept hk) (FS.notTaken (by kernel_rfl))) (FS.spOf_nil)) (fun _ _ h hb=>h.trans (hb.mono h.size)) ((Below.refl _ _).drew) ?_
 simp only[List.append_eq,List.cons_append,List.nil_append,List.take_succ_cons,List.take_zero,List.drop_succ_cons,List.drop_zero]
 iterate 2
  refine FS.wpF_reads rfl rfl rfl ?_ (fun w' hw'=>?_) ?_;rotate_left
  ·have hb':=hw'.world;have hs0:=(B1.out.below hb' B1.out.lt).cell (i:=0) rfl;have hs1:=(B1.out.below hb' B1.out.lt).cell (i:=1) rfl;have hs2:=(B1.out.below hb' B1.out.lt).cell (i:=2) rfl;have hs3:=(B1.out.below hb' B1.out.lt).cell (i:=3) rfl;have hs4:=(B1.out.below hb' B1.out.lt).cell (i:=4) rfl;have hs5:=(B1.out.below hb' B1.out.lt).cell (i:=5) rfl;have hs6:=(B1.out.below hb' B1.out.lt).cell (i:=6) rfl;have hs7:=(B1.out.below hb' B1.out.lt).cell (i:=7) rfl;have hsf:=(B1.out.below hb' B1.out.lt).fz;have hsl:=(B1.out.below hb' B1.out.lt).lt;clear hw';go_simp
   try rfl
  conv=>arg 10;simp only[Act.put,zq0,zq1,zq2]
 refine FS.wpF_spec rfl rfl rfl (fun w' hw'=>?_) ?_
 ·have hb':=hw'.world;refine FS.gives_of (FS.PM (fun x:FV=>x.v) (fun x w'=>TwF w' V.heap.size x t.c o1 o2) FV.blk w'.heap.size) ?_ (fun _ _ h=>h.post (fun _ _=>FV.inj));go_simp;have CT:=(show Calls Tryz.prog 13 #[.agg #[.bool t.c.t.s,.slice t.c.t.a t.c.t.n t.c.t.c,.bool t.c.l.s,.slice t.c.l.a t.c.l.n t.c.l.c]] w' _ from twinF_any t.c o1 o2 w' (HR1.out.below hb') HN1.out (HR2.out.below hb') HN2.out);refine CT.mono ?_;rintro e w'' ⟨za,rfl,ho,hb⟩;exact⟨_,rfl,⟨za,rfl,ho.mono hb'.size,ho.blks⟩,hb⟩
 rintro _ ⟨y2,rfl⟩
 conv=>arg 10;simp only[Act.put,zq0,zq1,zq2]
 iterate 3
  refine FS.wpF_reads rfl rfl rfl ?_ (fun w' hw'=>?_) ?_;rotate_left
  ·have hb':=hw'.world;have hs0:=(B1.out.below hb' B1.out.lt).cell (i:=0) rfl;have hs1:=(B1.out.below hb' B1.out.lt).cell (i:=1) rfl;have hs2:=(B1.out.below hb' B1.out.lt).cell (i:=2) rfl;have hs3:=(B1.out.below hb' B1.out.lt).cell (i:=3) rfl;have hs4:=(B1.out.below hb' B1.out.lt).cell (i:=4) rfl;have hs5:=(B1.out.below hb' B1.out.lt).cell (i:=5) rfl;have hs6:=(B1.out.below hb' B1.out.lt).cell (i:=6) rfl;have hs7:=(B1.out.below hb' B1.out.lt).cell (i:=7) rfl;have hsf:=(B1.out.below hb' B1.out.lt).fz;have hsl:=(B1.out.below hb' B1.out.lt).lt;clear hw';go_simp
   try rfl
  conv=>arg 10;simp only[Act.put,zq0,zq1,zq2]
 refine FS.wpF_nil (fun w101 hb hF=>?_);have N102:=qh (show TwF w101 V.heap.size y2 t.c o1 o2 from(FS.made_of (val:=(fun x:FV=>x.v)) (Φ:=fun x w'=>TwF w' V.heap.size x t.c o1 o2) (fun _ _=>FV.inj) (hF.all 2)));clear hF;have B1:=qh (B1.out.below hb B1.out.lt);have B2:=qh (B2.out.below hb B2.out.lt);have KG:=qk KG hb;clear hb;have HD:=qh (show TwF (put8 w101 A2 (.bool y2.t.s) (.slice y2.t.a y2.t.n y2.t.c) (.bool y2.l.s) (.slice y2.l.a y2.l.n y2.l.c) (.int .u16 t.m.x) (.int .u16 t.m.y) (.int .u16 t.m.z) (.int .u16 t.m.t)) w.heap.size y2 t.c o1 o2 from(N102.out.put (fun g hg=>by have:=(N102.out.blks g hg).1;have:=HAV.out;omega) ..).mono HSZ.out);have HB:=qh (show Below w.heap.size w (put8 w101 A2 (.bool y2.t.s) (.slice y2.t.a y2.t.n y2.t.c) (.bool y2.l.s) (.slice y2.l.a y2.l.n y2.l.c) (.int .u16 t.m.x) (.int .u16 t.m.y) (.int .u16 t.m.z) (.int .u16 t.m.t)) from put8_below KG.out HA2.out ..);have c20:=B2.out.cell (i:=0) rfl;have c21:=B2.out.cell (i:=1) rfl;have c22:=B2.out.cell (i:=2) rfl;have c23:=B2.out.cell (i:=3) rfl;have c24:=B2.out.cell (i:=4) rfl;have c25:=B2.out.cell (i:=5) rfl;have c26:=B2.out.cell (i:=6) rfl;have c27:=B2.out.cell (i:=7) rfl;have c2f:=B2.out.fz;have c2l:=B2.out.lt;go_wp2_with fail
 exact bodyPost_ret (results_cell rfl _ _ _ _ _ _ _ rfl (put8_bxs B2.out ..) Tryz.underlying71 rfl (by kernel_rfl)) rfl ⟨y2,rfl,HD.out,HB.out⟩
def letM (i:Nat):Mo:=if i=0 then ⟨1,0,0,0⟩ else if i=1 then ⟨0,1,0,0⟩ else if i=2 then ⟨0,0,1,0⟩ else ⟨0,0,0,1⟩
theorem letM_small (i:Nat):(letM i).Small:=by
 unfold letM
 split
 ·exact⟨by decide,by decide,by decide,by decide⟩
 ·split
  ·exact⟨by decide,by decide,by decide,by decide⟩
  ·split <;> exact⟨by decide,by decide,by decide,by decide⟩
theorem only_0 (w:World):Calls Tryz.prog 73 #[.int .i64 0] w fun e w'=>e=.returned (Mo.v (letM 0))∧Below w.heap.size w w':=by
 obtain⟨V,hV⟩:∃ V,V=w.alloc (.cells #[.int .u16 0,.int .u16 0,.int .u16 0,.int .u16 0] 69):=⟨_,rfl⟩;have B1:=qh (show Bxs V w.heap.size 69 [.int .u16 0,.int .u16 0,.int .u16 0,.int .u16 0] by rw[hV];exact Bxs.new w 69 [.int .u16 0,.int .u16 0,.int .u16 0,.int .u16 0])
 have hbV:Below w.heap.size w V:=by rw[hV];exact(Below.refl _ _).alloc (Nat.le_refl _) _
 have KG:=qh hbV;have HV:=qh hV;clear hV hbV;go_enter Tryz.func73,Tryz.ntmps73
 go_upto_region 1 with (fail)
 rw[show w.alloc (.cells #[.int .u16 0,.int .u16 0,.int .u16 0,.int .u16 0] 69)=V from HV.out.symm];have c0:=B1.out.cell (i:=0) rfl;have c1:=B1.out.cell (i:=1) rfl;have c2:=B1.out.cell (i:=2) rfl;have c3:=B1.out.cell (i:=3) rfl;have cf:=B1.out.fz;have cl:=B1.out.lt
 go_upto_region 2 with (fail)
 clear c0 c1 c2 c3 cf cl;obtain⟨U,hU⟩:∃ U,U=V.setCell ⟨w.heap.size,0,none⟩ (.int .u16 1):=⟨_,rfl⟩;have B2:=qh (show Bxs U w.heap.size 69 [.int .u16 1,.int .u16 0,.int .u16 0,.int .u16 0] by rw[hU];exact B1.out.put 0 _);have KG:=qh (show Below w.heap.size w U by rw[hU];exact KG.out.setCell (Nat.le_refl _) _);rw[← hU];clear hU;have c0:=B2.out.cell (i:=0) rfl;have c1:=B2.out.cell (i:=1) rfl;have c2:=B2.out.cell (i:=2) rfl;have c3:=B2.out.cell (i:=3) rfl;have cf:=B2.out.fz;have cl:=B2.out.lt;go_wp2_with fail
 refine bodyPost_ret (results_cell rfl _ _ _ _ _ _ _ rfl ((((B2.out.put 0 (.int .u16 1)).put 1 (.int .u16 0)).put 2 (.int .u16 0)).put 3 (.int .u16 0)) Tryz.underlying69 rfl (by kernel_rfl)) rfl ⟨rfl,?_⟩;exact(((KG.out.setCell (Nat.le_refl _) _).setCell (Nat.le_refl _) _).setCell (Nat.le_refl _) _).setCell (Nat.le_refl _) _
theorem only_1 (w:World):Calls Tryz.prog 73 #[.int .i64 1] w fun e w'=>e=.returned (Mo.v (letM 1))∧Below w.heap.size w w':=by
 obtain⟨V,hV⟩:∃ V,V=w.alloc (.cells #[.int .u16 0,.int .u16 0,.int .u16 0,.int .u16 0] 69):=⟨_,rfl⟩;have B1:=qh (show Bxs V w.heap.size 69 [.int .u16 0,.int .u16 0,.int .u16 0,.int .u16 0] by rw[hV];exact Bxs.new w 69 [.int .u16 0,.int .u16 0,.int .u16 0,.int .u16 0])
 have hbV:Below w.heap.size w V:=by rw[hV];exact(Below.refl _ _).alloc (Nat.le_refl _) _
 have KG:=qh hbV;have HV:=qh hV;clear hV hbV;go_enter Tryz.func73,Tryz.ntmps73
 go_upto_region 1 with (fail)
 rw[show w.alloc (.cells #[.int .u16 0,.int .u16 0,.int .u16 0,.int .u16 0] 69)=V from HV.out.symm];have c0:=B1.out.cell (i:=0) rfl;have c1:=B1.out.cell (i:=1) rfl;have c2:=B1.out.cell (i:=2) rfl;have c3:=B1.out.cell (i:=3) rfl;have cf:=B1.out.fz;have cl:=B1.out.lt
 go_upto_region 2 with (fail)
 clear c0 c1 c2 c3 cf cl;obtain⟨U,hU⟩:∃ U,U=V.setCell ⟨w.heap.size,1,none⟩ (.int .u16 1):=⟨_,rfl⟩;have B2:=qh (show Bxs U w.heap.size 69 [.int .u16 0,.int .u16 1,.int .u16 0,.int .u16 0] by rw[hU];exact B1.out.put 1 _);have KG:=qh (show Below w.heap.size w U by rw[hU];exact KG.out.setCell (Nat.le_refl _) _);rw[← hU];clear hU;have c0:=B2.out.cell (i:=0) rfl;have c1:=B2.out.cell (i:=1) rfl;have c2:=B2.out.cell (i:=2) rfl;have c3:=B2.out.cell (i:=3) rfl;have cf:=B2.out.fz;have cl:=B2.out.lt;go_wp2_with fail
 refine bodyPost_ret (results_cell rfl _ _ _ _ _ _ _ rfl ((((B2.out.put 0 (.int .u16 0)).put 1 (.int .u16 1)).put 2 (.int .u16 0)).put 3 (.int .u16 0)) Tryz.underlying69 rfl (by kernel_rfl)) rfl ⟨rfl,?_⟩;exact(((KG.out.setCell (Nat.le_refl _) _).setCell (Nat.le_refl _) _).setCell (Nat.le_refl _) _).setCell (Nat.le_refl _) _
theorem only_2 (w:World):Calls Tryz.prog 73 #[.int .i64 2] w fun e w'=>e=.returned (Mo.v (letM 2))∧Below w.heap.size w w':=by
 obtain⟨V,hV⟩:∃ V,V=w.alloc (.cells #[.int .u16 0,.int .u16 0,.int .u16 0,.int .u16 0] 69):=⟨_,rfl⟩;have B1:=qh (show Bxs V w.heap.size 69 [.int .u16 0,.int .u16 0,.int .u16 0,.int .u16 0] by rw[hV];exact Bxs.new w 69 [.int .u16 0,.int .u16 0,.int .u16 0,.int .u16 0])
 have hbV:Below w.heap.size w V:=by rw[hV];exact(Below.refl _ _).alloc (Nat.le_refl _) _
 have KG:=qh hbV;have HV:=qh hV;clear hV hbV;go_enter Tryz.func73,Tryz.ntmps73
 go_upto_region 1 with (fail)
 rw[show w.alloc (.cells #[.int .u16 0,.int .u16 0,.int .u16 0,.int .u16 0] 69)=V from HV.out.symm];have c0:=B1.out.cell (i:=0) rfl;have c1:=B1.out.cell (i:=1) rfl;have c2:=B1.out.cell (i:=2) rfl;have c3:=B1.out.cell (i:=3) rfl;have cf:=B1.out.fz;have cl:=B1.out.lt
 go_upto_region 2 with (fail)
 clear c0 c1 c2 c3 cf cl;obtain⟨U,hU⟩:∃ U,U=V.setCell ⟨w.heap.size,2,none⟩ (.int .u16 1):=⟨_,rfl⟩;have B2:=qh (show Bxs U w.heap.size 69 [.int .u16 0,.int .u16 0,.int .u16 1,.int .u16 0] by rw[hU];exact B1.out.put 2 _);have KG:=qh (show Below w.heap.size w U by rw[hU];exact KG.out.setCell (Nat.le_refl _) _);rw[← hU];clear hU;have c0:=B2.out.cell (i:=0) rfl;have c1:=B2.out.cell (i:=1) rfl;have c2:=B2.out.cell (i:=2) rfl;have c3:=B2.out.cell (i:=3) rfl;have cf:=B2.out.fz;have cl:=B2.out.lt;go_wp2_with fail
 refine bodyPost_ret (results_cell rfl _ _ _ _ _ _ _ rfl ((((B2.out.put 0 (.int .u16 0)).put 1 (.int .u16 0)).put 2 (.int .u16 1)).put 3 (.int .u16 0)) Tryz.underlying69 rfl (by kernel_rfl)) rfl ⟨rfl,?_⟩;exact(((KG.out.setCell (Nat.le_refl _) _).setCell (Nat.le_refl _) _).setCell (Nat.le_refl _) _).setCell (Nat.le_refl _) _
theorem only_3 (w:World):Calls Tryz.prog 73 #[.int .i64 3] w fun e w'=>e=.returned (Mo.v (letM 3))∧Below w.heap.size w w':=by
 obtain⟨V,hV⟩:∃ V,V=w.alloc (.cells #[.int .u16 0,.int .u16 0,.int .u16 0,.int .u16 0] 69):=⟨_,rfl⟩;have B1:=qh (show Bxs V w.heap.size 69 [.int .u16 0,.int .u16 0,.int .u16 0,.int .u16 0] by rw[hV];exact Bxs.new w 69 [.int .u16 0,.int .u16 0,.int .u16 0,.int .u16 0])
 have hbV:Below w.heap.size w V:=by rw[hV];exact(Below.refl _ _).alloc (Nat.le_refl _) _
 have KG:=qh hbV;have HV:=qh hV;clear hV hbV;go_enter Tryz.func73,Tryz.ntmps73
 go_upto_region 1 with (fail)
 rw[show w.alloc (.cells #[.int .u16 0,.int .u16 0,.int .u16 0,.int .u16 0] 69)=V from HV.out.symm];have c0:=B1.out.cell (i:=0) rfl;have c1:=B1.out.cell (i:=1) rfl;have c2:=B1.out.cell (i:=2) rfl;have c3:=B1.out.cell (i:=3) rfl;have cf:=B1.out.fz;have cl:=B1.out.lt
 go_upto_region 2 with (fail)
 clear c0 c1 c2 c3 cf cl;obtain⟨U,hU⟩:∃ U,U=V.setCell ⟨w.heap.size,3,none⟩ (.int .u16 1):=⟨_,rfl⟩;have B2:=qh (show Bxs U w.heap.size 69 [.int .u16 0,.int .u16 0,.int .u16 0,.int .u16 1] by rw[hU];exact B1.out.put 3 _);have KG:=qh (show Below w.heap.size w U by rw[hU];exact KG.out.setCell (Nat.le_refl _) _);rw[← hU];clear hU;have c0:=B2.out.cell (i:=0) rfl;have c1:=B2.out.cell (i:=1) rfl;have c2:=B2.out.cell (i:=2) rfl;have c3:=B2.out.cell (i:=3) rfl;have cf:=B2.out.fz;have cl:=B2.out.lt;go_wp2_with fail
 refine bodyPost_ret (results_cell rfl _ _ _ _ _ _ _ rfl ((((B2.out.put 0 (.int .u16 0)).put 1 (.int .u16 0)).put 2 (.int .u16 0)).put 3 (.int .u16 1)) Tryz.underlying69 rfl (by kernel_rfl)) rfl ⟨rfl,?_⟩;exact(((KG.out.setCell (Nat.le_refl _) _).setCell (Nat.le_refl _) _).setCell (Nat.le_refl _) _).setCell (Nat.le_refl _) _
theorem only_any (i:Nat) (hi:i<4) (w:World):Calls Tryz.prog 73 #[.int .i64 (i:Int)] w fun e w'=>e=.returned (Mo.v (letM i))∧Below w.heap.size w w':=by
 obtain rfl | rfl | rfl | rfl:i=0∨i=1∨i=2∨i=3:=by omega
 ·exact only_0 w
 ·exact only_1 w
 ·exact only_2 w
 ·exact only_3 w
def letP (i:Nat):List Tm:=[(letM i,1)]
theorem letP_canon (i:Nat):Canon (letP i):=⟨List.pairwise_singleton _ _,fun t ht=>by rw[List.mem_singleton.1 ht];show(1:Rat)≠0;decide +kernel⟩
theorem letter_k (i:Nat) (hi:i<4) (w:World):Calls Tryz.prog 15 #[.int .i64 (i:Int)] w fun e w'=>∃ z:PV,e=.returned (.tuple #[z.v,.int .i64 0])∧DP w' w.heap.size z (letP i)∧Below w.heap.size w w':=by
 have OF:=qh (qof 1 w (by decide) (by decide));have HI:=qh hi
 have h1:¬((i:Int)<0):=by omega
 have h2:¬((4:Int)≤(i:Int)):=by omega
 have h3:¬((i:Int) ≥ 4):=by omega
 clear hi;go_enter Tryz.func15,Tryz.ntmps15;go_wp2_with fail
 with_reducible refine OF.out.mono ?_
 rintro e w1 ⟨c,rfl,hc,hb⟩;have HC:=qh hc;have KG:=qh hb;have ON:=qh (only_any i HI.out w1);clear hc hb OF;go_wp2_with fail
 with_reducible refine ON.out.mono ?_
 rintro e w2 ⟨rfl,hb⟩;have HC:=qh (HC.out.below hb);have KG:=qk KG hb;clear hb ON;go_wp2_with fail
 go_ret2;have hal:Below w2.heap.size w2 (w2.alloc (.cells (TV.cells ⟨c,letM i⟩).toArray 71)):=(Below.refl _ _).alloc (Nat.le_refl _) _;refine⟨⟨some ⟨w2.heap.size,0,none⟩,1,1⟩,rfl,?_,KG.out.trans (hal.mono KG.out.size)⟩;refine⟨⟨[(⟨c,letM i⟩,1)],?_,fun e he=>?_,List.pairwise_singleton _ _,rfl⟩,letP_canon i,fun t ht=>?_⟩
 ·show World.ownsRow _ _ _ _ _ _ _;exact World.ownsRow_lit (base:=w.heap.size) (e:=71) (size:=8) w2 (TV.cells ⟨c,letM i⟩).toArray 1 KG.out.size (by decide) rfl
 ·rw[List.mem_singleton.1 he];exact HC.out.below hal
 ·rw[List.mem_singleton.1 ht];exact letM_small i
end Go.Proofs.YtgkkbkoiaccmfaaGreatDoor.Pol
namespace Go.Proofs.YtgkkbkoiaccmfaaGreatDoor.Pol
open Go.RowKit Go.Sort Go.Proofs.YtgkkbkoiaccmfaaGreatDoor.Limb Go.ChangeShapes Go.WideShapes Go.ChangeAt
theorem limbs_sizeX (a:Option Addr) (n c:Nat) (w:World):Calls Tryz.prog 169 #[.slice a n c] w fun e w'=>e=.returned (.int .i64 n)∧Below w.heap.size w w':=by
 go_enter Tryz.func169,Tryz.ntmps169;go_wp2_with fail
 go_ret;exact⟨rfl,Below.refl _ _⟩
theorem num_sizeX (s:Bool) (a:Option Addr) (n c:Nat) (w:World) (hn:n≤281474976710656):Calls Tryz.prog 66 #[.agg #[.bool s,.slice a n c]] w fun e w'=>e=.returned (.int .i64 (1+(n:Int)))∧Below w.heap.size w w':=by
 have en:IntKind.i64.wrap (1+(n:Int))=1+(n:Int):=IntWalk.i64_in _ (by omega)
 have en2:wrap64 (1+(n:Int))=1+(n:Int):=by unfold wrap64;omega
 obtain⟨V,hV⟩:∃ V,V=w.alloc (.cells #[.bool s,.slice a n c] 26):=⟨_,rfl⟩
 have hbV:Below w.heap.size w V:=by rw[hV];exact(Below.refl _ _).alloc (Nat.le_refl _) _
 have B1:=qh (show Bxs V w.heap.size 26 [.bool s,.slice a n c] by rw[hV];exact Bxs.new w 26 [.bool s,.slice a n c]);have KG:=qh hbV;have HV:=qh hV;clear hV hbV;go_enter Tryz.func66,Tryz.ntmps66
 go_upto_region 1 with (fail)
 rw[show w.alloc (.cells #[.bool s,.slice a n c] 26)=V from HV.out.symm];have c0:=B1.out.cell (i:=0) rfl;have c1:=B1.out.cell (i:=1) rfl;go_wp2_with fail
 with_reducible refine(limbs_sizeX _ _ _ _).mono ?_
 rintro e w1 ⟨rfl,hb⟩;have KG:=qk KG hb;have B1:=qh (B1.out.below hb B1.out.lt);clear hb c0 c1;go_wp2_with fail
 go_ret;exact⟨rfl,KG.out⟩
structure FZ (x:FV) (z:Int):Prop where
 lo:0≤z
 hi:z≤1000000000000000
 is:z≤1000→x.t.n≤z.toNat∧x.l.n≤z.toNat
def FSz (w:World) (x:FV) (e:Ending) (w':World):Prop:=∃ z:Int,e=.returned (.int .i64 z)∧FZ x z∧Below w.heap.size w w'
theorem frac_sizeX (x:FV) (w:World) (ht:x.t.n≤281474976710656) (hl:x.l.n≤281474976710656):Calls Tryz.prog 11 #[x.v] w (FSz w x):=by
 have e1:IntKind.i64.wrap (1+(1+(x.t.n:Int)))=1+(1+(x.t.n:Int)):=IntWalk.i64_in _ (by omega)
 have e1b:wrap64 (1+(1+(x.t.n:Int)))=1+(1+(x.t.n:Int)):=by unfold wrap64;omega
 have e2:IntKind.i64.wrap (1+(1+(x.t.n:Int))+(1+(x.l.n:Int)))=1+(1+(x.t.n:Int))+(1+(x.l.n:Int)):=IntWalk.i64_in _ (by omega)
 have e2b:wrap64 (1+(1+(x.t.n:Int))+(1+(x.l.n:Int)))=1+(1+(x.t.n:Int))+(1+(x.l.n:Int)):=by unfold wrap64;omega
 obtain⟨V,hV⟩:∃ V,V=w.alloc (.cells #[.bool x.t.s,.slice x.t.a x.t.n x.t.c,.bool x.l.s,.slice x.l.a x.l.n x.l.c] 28):=⟨_,rfl⟩
 have hbV:Below w.heap.size w V:=by rw[hV];exact(Below.refl _ _).alloc (Nat.le_refl _) _
 have B1:=qh (show Bxs V w.heap.size 28 [.bool x.t.s,.slice x.t.a x.t.n x.t.c,.bool x.l.s,.slice x.l.a x.l.n x.l.c] by rw[hV];exact Bxs.new w 28 [.bool x.t.s,.slice x.t.a x.t.n x.t.c,.bool x.l.s,.slice x.l.a x.l.n x.l.c]);have KG:=qh hbV;have HV:=qh hV;clear hV hbV;change Calls Tryz.prog 11 #[.agg #[.bool x.t.s,.slice x.t.a x.t.n x.t.c,.bool x.l.s,.slice x.l.a x.l.n x.l.c]] w _;go_enter Tryz.func11,Tryz.ntmps11
 go_upto_region 1 with (fail)
 rw[show w.alloc (.cells #[.bool x.t.s,.slice x.t.a x.t.n x.t.c,.bool x.l.s,.slice x.l.a x.l.n x.l.c] 28)=V from HV.out.symm];have c0:=B1.out.cell (i:=0) rfl;have c1:=B1.out.cell (i:=1) rfl;have c2:=B1.out.cell (i:=2) rfl;have c3:=B1.out.cell (i:=3) rfl;go_wp2_with fail
 with_reducible refine(num_sizeX _ _ _ _ _ ht).mono ?_
 rintro e w1 ⟨rfl,hb⟩;have KG:=qk KG hb;have B1:=qh (B1.out.below hb B1.out.lt);clear hb c0 c1 c2 c3
 by_cases h:1+(1+(x.t.n:Int))≤1048576
 ·have c0:=B1.out.cell (i:=0) rfl;have c1:=B1.out.cell (i:=1) rfl;have c2:=B1.out.cell (i:=2) rfl;have c3:=B1.out.cell (i:=3) rfl;go_wp2_with fail
  with_reducible refine(num_sizeX _ _ _ _ _ hl).mono ?_
  rintro e w2 ⟨rfl,hb⟩;have KG:=qk KG hb;clear hb c0 c1 c2 c3;go_wp2_with fail
  go_ret;exact⟨_,rfl,⟨by omega,by omega,fun _=>⟨by omega,by omega⟩⟩,KG.out⟩
 ·have h2:1048576<1+(1+(x.t.n:Int)):=by omega
  go_wp2_with fail
  go_ret;exact⟨_,rfl,⟨by omega,by omega,fun h=>by omega⟩,KG.out⟩
theorem open_listW {H:Type} {enc:TypeId × Value→H} {W:World} {sp:Nat→Bool} {hd:Bool} {fuel:Nat} {v:Value} {x:DataW H × List MemPlace}
  (h:DataW.trod enc Tryz.prog W 0 sp hd fuel 24 [v]=some x) (hw:∀ k∈x.1.weights Tryz.prog 24,k≤reachBytes) {a:Option Addr} {n c:Nat} (hv:v=.slice a n c):n≤281474976710656:=by
 rcases DataW.trod_slice Tryz.underlying24 h with ⟨e,_⟩ | ⟨a',len,cap,elems,rest,m,_,e,hx,_,hl,_,hel,_,_⟩
 ·rw[hv] at e;simp only[List.cons.injEq,Value.slice.injEq,and_true] at e;omega
 ·rw[hv] at e;simp only[List.cons.injEq,Value.slice.injEq,and_true] at e;have h1:=hw ((elems.map (·.1)).length*1+0);rw[hx] at hw;have h2:=hw (((elems.map (·.1)).length+(rest.map (·.1)).length)*Tryz.prog.bytesOf 160) (by unfold DataW.weights;rw[Tryz.underlying24];exact List.mem_cons_self);rw[show Tryz.prog.bytesOf 160=4 by kernel_rfl,List.length_map,List.length_map] at h2
  have h3:reachBytes=140737488351232:=by decide
  omega
theorem weights_part {H:Type} {t:TypeId} {fs:Array Field} (ht:Tryz.prog.underlying t=some (.struct fs)) {parts:List (DataW H)} {B:Nat} (hw:∀ k∈(DataW.agg parts).weights Tryz.prog t,k≤B) {i:Nat} {f:Field} (hf:fs[i]?=some f) {d:DataW H} (hd:parts[i]?=some d):∀ k∈d.weights Tryz.prog f.type,k≤B:=fun k hk=>by
 refine hw k ?_;unfold DataW.weights;rw[ht];exact DataW.weights_mem_each (t:=f.type) (by rw[List.getElem?_map,Array.getElem?_toList,hf];rfl) hd k hk
theorem open_numW {H:Type} {enc:TypeId × Value→H} {W:World} {sp:Nat→Bool} {hd:Bool} {fuel:Nat} {l:List Value} {x:DataW H × List MemPlace}
  (hf:DataW.trod enc Tryz.prog W 0 sp hd fuel 26 l=some x) (hw:∀ k∈x.1.weights Tryz.prog 26,k≤reachBytes):∃ s a n c o,l=[.bool s,.slice a n c]∧Rd W a n o∧n≤c∧n≤281474976710656:=by
 obtain⟨xs,m,_,hx,hlen,hxl,hfld⟩:=DataW.trod_struct Tryz.underlying26 hf;have hlen:l.length=2:=hlen.trans cellsNum
 obtain⟨x0,x1,rfl⟩:∃ x0 x1,l=[x0,x1]:=by
  match l,hlen with
  | [x0,x1],_=>exact⟨x0,x1,rfl⟩
 have h0:DataW.trod enc Tryz.prog W 0 sp hd m 4 (([x0,x1].drop 0).take (Tryz.prog.cellsOf 4))=xs[0]?:=hfld 0 _ rfl;have h1:DataW.trod enc Tryz.prog W 0 sp hd m 24 (([x0,x1].drop 1).take (Tryz.prog.cellsOf 24))=xs[1]?:=hfld 1 _ rfl;have hx2:xs.length=2:=hxl;rw[List.getElem?_eq_getElem (by omega)] at h0;rw[List.getElem?_eq_getElem (by omega)] at h1;rw[cellsBool] at h0;rw[cellsList] at h1;obtain⟨s,e0,_⟩:=DataW.trod_bool Tryz.underlying4 h0;obtain⟨a,n,c,o,e1,hr,hl⟩:=open_list (v:=x1) h1
 have e0:x0=.bool s:=by
  have:[x0]=[Value.bool s]:=e0
  simpa using this
 rw[hx] at hw;have hn:=open_listW (v:=x1) h1 (weights_part Tryz.underlying26 hw (i:=1) rfl (by rw[List.getElem?_map,List.getElem?_eq_getElem (by omega)];rfl)) e1;exact⟨s,a,n,c,o,by rw[e0,e1],hr,hl,hn⟩
structure AQ (w:World) (x:FV):Prop where
 af:∃ q,AF w x q
 cs:(∃ q,KF w x q)∨BF w x
 t:x.t.n≤281474976710656
 l:x.l.n≤281474976710656
theorem open_fracTW {H:Type} {enc:TypeId × Value→H} {W:World} {sp:Nat→Bool} {hd:Bool} {fuel:Nat} {l:List Value} {x:DataW H × List MemPlace}
  (hf:DataW.trod enc Tryz.prog W 0 sp hd fuel 28 l=some x) (hw:∀ k∈x.1.weights Tryz.prog 28,k≤reachBytes):∃ y:FV,l=[.bool y.t.s,.slice y.t.a y.t.n y.t.c,.bool y.l.s,.slice y.l.a y.l.n y.l.c]∧AQ W y:=by
 obtain⟨xs,m,_,hx,hlen,hxl,hfld⟩:=DataW.trod_struct Tryz.underlying28 hf;have hlen:l.length=4:=hlen.trans cellsFrac
 obtain⟨x0,x1,x2,x3,rfl⟩:∃ x0 x1 x2 x3,l=[x0,x1,x2,x3]:=by
  match l,hlen with
  | [x0,x1,x2,x3],_=>exact⟨x0,x1,x2,x3,rfl⟩
 have h0:DataW.trod enc Tryz.prog W 0 sp hd m 26 (([x0,x1,x2,x3].drop 0).take (Tryz.prog.cellsOf 26))=xs[0]?:=hfld 0 _ rfl;have h1:DataW.trod enc Tryz.prog W 0 sp hd m 26 (([x0,x1,x2,x3].drop 2).take (Tryz.prog.cellsOf 26))=xs[1]?:=hfld 1 _ rfl;have hx2:xs.length=2:=hxl;rw[List.getElem?_eq_getElem (by omega)] at h0;rw[List.getElem?_eq_getElem (by omega)] at h1;rw[cellsNum] at h0 h1;rw[hx] at hw;obtain⟨s1,a1,n1,c1,o1,e1,r1,l1,w1⟩:=open_numW h0 (weights_part Tryz.underlying28 hw (i:=0) rfl (by rw[List.getElem?_map,List.getElem?_eq_getElem (by omega)];rfl));obtain⟨s2,a2,n2,c2,o2,e2,r2,l2,w2⟩:=open_numW h1 (weights_part Tryz.underlying28 hw (i:=1) rfl (by rw[List.getElem?_map,List.getElem?_eq_getElem (by omega)];rfl));have e1:[x0,x1]=[.bool s1,.slice a1 n1 c1]:=e1;have e2:[x2,x3]=[.bool s2,.slice a2 n2 c2]:=e2;simp only[List.cons.injEq,and_true] at e1 e2;refine⟨⟨⟨s1,a1,n1,c1⟩,⟨s2,a2,n2,c2⟩⟩,by rw[e1.1,e1.2,e2.1,e2.2],⟨_,AF.raw r1 l1 r2 l2⟩,?_,w1,w2⟩
 by_cases hk:okF s1 n1 o1 s2 n2 o2
 ·exact Or.inl ⟨_,KF.raw r1 l1 r2 l2 hk⟩
 ·exact Or.inr (BF.raw r1 l1 r2 l2 hk)
theorem each_weight {H:Type} {ts:List TypeId} {ds:List (DataW H)} (h:(DataW.weightsEach Tryz.prog ts ds).all (·≤reachBytes)=true) {j:Nat} {t:TypeId} {d:DataW H} (ht:ts[j]?=some t) (hd:ds[j]?=some d):∀ k∈d.weights Tryz.prog t,k≤reachBytes:=fun k hk=>by
 have h1:=List.all_eq_true.1 h k (DataW.weights_mem_each ht hd k hk)
 simpa using h1
theorem open_fracW {H:Type} {enc:TypeId × Value→H} {W:World} {base:Nat} {r:Reach} {sp:Nat→Bool} {hd:Bool} {v:Value} {d:DataW H} {p:List MemPlace}
  (hok:Value.okWide Tryz.prog W r base 28 v) (h:DataW.Trod enc Tryz.prog W 0 sp hd 28 v d p) (hw:∀ k∈d.weights Tryz.prog 28,k≤reachBytes):∃ y:FV,v=y.v∧AQ W y:=by
 obtain⟨cs,rfl,_⟩:∃ cs,v=.agg cs∧True:=by
  unfold Value.okWide at hok;rw[Tryz.underlying28] at hok;obtain⟨cs,h1,_⟩:=hok;exact⟨cs,h1,trivial⟩
 obtain⟨fuel,hf⟩:=h;obtain⟨y,e,hy⟩:=open_fracTW (l:=cs.toList) hf hw;refine⟨y,?_,hy⟩;obtain⟨l⟩:=cs;have e:l=_:=e;rw[e]
end Go.Proofs.YtgkkbkoiaccmfaaGreatDoor.Pol
namespace Go.Proofs.YtgkkbkoiaccmfaaGreatDoor.Book
open Go.RowKit Go.Sort Go.FreshG Go.Proofs.YtgkkbkoiaccmfaaGreatDoor.Limb Go.Proofs.YtgkkbkoiaccmfaaGreatDoor.Pol
def termsL:List TV→Nat→List HL
 | [],_=>[]
 | t :: r,q=>⟨t.c.t.a,t.c.t.n,t.c.t.c,q⟩ :: ⟨t.c.l.a,t.c.l.n,t.c.l.c,q+1⟩ :: termsL r (q+2)
theorem termsL_len:∀ (ts:List TV) (q:Nat),(termsL ts q).length=2*ts.length
 | [],_=>rfl
 | t :: r,q=>by
  show(termsL r (q+2)).length+1+1=2*(r.length+1);rw[termsL_len r (q+2)];omega
theorem termsL_snoc:∀ (ts:List TV) (t:TV) (q:Nat),termsL (ts++[t]) q=termsL ts q++[⟨t.c.t.a,t.c.t.n,t.c.t.c,q+2*ts.length⟩]++[⟨t.c.l.a,t.c.l.n,t.c.l.c,q+2*ts.length+1⟩]
 | [],t,q=>rfl
 | s :: r,t,q=>by
  show(⟨s.c.t.a,s.c.t.n,s.c.t.c,q⟩:HL) :: ⟨s.c.l.a,s.c.l.n,s.c.l.c,q+1⟩ :: termsL (r++[t]) (q+2)=⟨s.c.t.a,s.c.t.n,s.c.t.c,q⟩ :: ⟨s.c.l.a,s.c.l.n,s.c.l.c,q+1⟩ :: (termsL r (q+2)++[_]++[_]);rw[termsL_snoc r t (q+2),List.length_cons,show q+2+2*r.length=q+2*(r.length+1) by omega]
theorem RE.keepB {base:Nat} {w w':World} {b o i:Nat} {t:TV} (h:RE w b o i t) (hk:KeepB base w w') (hb:b<base):RE w' b o i t :=
 ⟨Nat.lt_of_lt_of_le h.lt hk.bel.size,fun j v hj=>(World.cell?_of_block (a:=⟨b,o+i*8+j,none⟩) (hk.bel.block b hb)).trans (h.cell j v hj)⟩
theorem BkS.term {w:World} {b base q:Nat} {L M:List HL} (h:BkS w b base q L M) (hk:L.length≤29990) (hq:q≤59990) (t:TV) :
  Calls Tryz.prog 45 #[.pointer (some ⟨b,0,none⟩),TV.v t] w (KeptS b base (q+2) (fracL L q t.c.t.a t.c.t.n t.c.t.c t.c.l.a t.c.l.n t.c.l.c) M w):=by
 obtain⟨V,hV⟩:∃ V,V=w.alloc (.cells #[.bool t.c.t.s,.slice t.c.t.a t.c.t.n t.c.t.c,.bool t.c.l.s,.slice t.c.l.a t.c.l.n t.c.l.c,.int .u16 t.m.x,.int .u16 t.m.y,.int .u16 t.m.z,.int .u16 t.m.t] 71):=⟨_,rfl⟩;have HS:=qh (show BkS V b base q L M by rw[hV];exact h.alloc _);have HA:=qh (show KeepB base w V by rw[hV];exact KeepB.alloc h.hw _);have B3:=qh (show Bxs V w.heap.size 71 [.bool t.c.t.s,.slice t.c.t.a t.c.t.n t.c.t.c,.bool t.c.l.s,.slice t.c.l.a t.c.l.n t.c.l.c,.int .u16 t.m.x,.int .u16 t.m.y,.int .u16 t.m.z,.int .u16 t.m.t] by rw[hV];exact Bxs.new w 71 [.bool t.c.t.s,.slice t.c.t.a t.c.t.n t.c.t.c,.bool t.c.l.s,.slice t.c.l.a t.c.l.n t.c.l.c,.int .u16 t.m.x,.int .u16 t.m.y,.int .u16 t.m.z,.int .u16 t.m.t]);have HV:=qh hV;have K:=qh (HS.out.frac hk hq t.c.t.s t.c.t.a t.c.t.n t.c.t.c t.c.l.s t.c.l.a t.c.l.n t.c.l.c);clear h hk hq hV;change Calls Tryz.prog 45 #[.pointer (some ⟨b,0,none⟩),.agg #[.bool t.c.t.s,.slice t.c.t.a t.c.t.n t.c.t.c,.bool t.c.l.s,.slice t.c.l.a t.c.l.n t.c.l.c,.int .u16 t.m.x,.int .u16 t.m.y,.int .u16 t.m.z,.int .u16 t.m.t]] w _;go_enter Tryz.func45,Tryz.ntmps45
 go_upto_region 1 with (fail)
 rw[show w.alloc (.cells #[.bool t.c.t.s,.slice t.c.t.a t.c.t.n t.c.t.c,.bool t.c.l.s,.slice t.c.l.a t.c.l.n t.c.l.c,.int .u16 t.m.x,.int .u16 t.m.y,.int .u16 t.m.z,.int .u16 t.m.t] 71)=V from HV.out.symm];have c0:=B3.out.cell (i:=0) rfl;have c1:=B3.out.cell (i:=1) rfl;have c2:=B3.out.cell (i:=2) rfl;have c3:=B3.out.cell (i:=3) rfl;go_wp2_with fail
 refine K.out.mono ?_;rintro e w1 ⟨⟨r,rfl⟩,h⟩;have H:=qh h;clear h c0 c1 c2 c3;go_wp2_with fail
 (try simp only[Exit.inBlock,Exit.then])
 refine bodyPost_end (results_none rfl _ _ _) rfl ?_;exact⟨⟨_,rfl⟩,H.out.1,HA.out.trans H.out.2⟩
theorem BkS.poly {w:World} {b base q:Nat} {L M:List HL} (h:BkS w b base q L M) (x:PV) (ts:List TV) (hr:RT w x.a ts) (hn:ts.length=x.n) (hfar:∀ p,x.a=some p→p.block<base) (hk:L.length+2*x.n≤29990) (hq:q+2*x.n≤59990) (hm:M.length≤30000) :
  Calls Tryz.prog 23 #[.pointer (some ⟨b,0,none⟩),x.v] w (KeptS b base (q+2*x.n+1) (L++termsL ts q) (M++[⟨x.a,x.n,x.c,q+2*x.n⟩]) w):=by
 obtain⟨xa,xn,xc⟩:=x;have HS:=qh h;have HR:=qh (show RT w xa ts from hr);have HN:=qh (show ts.length=xn from hn);have HF:=qh hfar;have HK:=qh (show L.length+2*xn≤29990 from hk);have HQ:=qh (show q+2*xn≤59990 from hq);have HM:=qh hm;clear h hr hn hfar hk hq hm;change Calls Tryz.prog 23 #[.pointer (some ⟨b,0,none⟩),.slice xa xn xc] w _;go_enter Tryz.func23,Tryz.ntmps23;go_wp2_with fail
 go_loopw [4] (fun i wr=>∃ j:Nat,j≤xn∧i=.int .i64 j∧BkS wr b base (q+2*j) (L++termsL (ts.take j) q) M∧KeepB base w wr) (fun i _=>xn-(intOf i).toNat)
 case atStart=>exact⟨0,Nat.zero_le _,rfl,by simpa[termsL] using HS.out,KeepB.refl _ _⟩
 case round =>
  obtain⟨j,hj,rfl,hs,hkb⟩:=hrel;have HJ:=qh hj;have HS:=qh hs;have KB:=qh hkb;clear hj hs hkb
  by_cases hjn:j<xn
  ·have HJN:=qh hjn
   have hlt:(j:Int)<(xn:Int):=by omega
   obtain⟨t,ht⟩:∃ t,ts[j]?=some t:=⟨_,List.getElem?_eq_getElem (by rw[HN.out];exact hjn)⟩;obtain⟨pb,po,rfl,hre⟩:=HR.out.one (fun e=>by rw[e] at ht;simp at ht);have HT:=qh ht;have E1:=qh (RE.keepB (hre j t ht) KB.out (HF.out _ rfl));have ek:IntKind.i64.wrap ((j:Int)+1)=(j:Int)+1:=IntWalk.i64_in _ (by have:=HJN.out;have:=HK.out;omega)
   have hll:(ts.take j).length=j:=by rw[List.length_take,HN.out];omega
   have HLL:=qh hll;have CT:=qh (show Calls Tryz.prog 45 #[.pointer (some ⟨b,0,none⟩),.agg #[.bool t.c.t.s,.slice t.c.t.a t.c.t.n t.c.t.c,.bool t.c.l.s,.slice t.c.l.a t.c.l.n t.c.l.c,.int .u16 t.m.x,.int .u16 t.m.y,.int .u16 t.m.z,.int .u16 t.m.t]] wr _ from HS.out.term (by rw[List.length_append,termsL_len,hll];have:=HJN.out;have:=HK.out;omega) (by have:=HJN.out;have:=HQ.out;omega) t);obtain⟨c0,c1,c2,c3,c4,c5,c6,c7⟩:=E1.out.eight;clear hjn ht hre hll;go_wp2_with fail
   with_reducible refine CT.out.mono ?_
   rintro e w1 ⟨⟨r,rfl⟩,hs,hk⟩
   have HS2:=qh (show BkS w1 b base (q+2*(j+1)) (L++termsL (ts.take (j+1)) q) M by
    rw[List.take_add_one,HT.out];show BkS w1 b base (q+2*(j+1)) (L++termsL (ts.take j++[t]) q) M;rw[termsL_snoc,HLL.out,← List.append_assoc,← List.append_assoc]
    exact hs)
   have KB:=qh (KB.out.trans hk);clear hs hk CT c0 c1 c2 c3 c4 c5 c6 c7;go_wp2_with fail
   go_roundw
   case rel=>exact⟨j+1,HJN.out,rfl,HS2.out,KB.out⟩
   case measure=>simp[intOf];have:=HJN.out;omega
  ·have hge:¬((j:Int)<(xn:Int)):=by omega
   obtain rfl:j=xn:=by have:=HJ.out;omega
   have HAL:=qh (show ts.take j=ts from List.take_of_length_le (by rw[HN.out];exact Nat.le_refl _));have HS2:=qh (show BkS wr b base (q+2*j) (L++termsL ts q) M by rw[← HAL.out];exact HS.out);have K:=qh (HS2.out.keepT HM.out (by have:=HQ.out;omega) xa j xc);clear hjn;go_wp2_with fail
   refine K.out.mono ?_;rintro e w1 ⟨⟨r,rfl⟩,h⟩;have H:=qh h;clear h;go_wp2_with fail
   (try simp only[Exit.inBlock,Exit.then])
   refine bodyPost_end (results_none rfl _ _ _) rfl ?_;exact⟨⟨_,rfl⟩,H.out.1,KB.out.trans H.out.2⟩
end Go.Proofs.YtgkkbkoiaccmfaaGreatDoor.Book
namespace Go.Proofs.YtgkkbkoiaccmfaaGreatDoor.Pol
open Go.RowKit Go.Sort Go.Proofs.YtgkkbkoiaccmfaaGreatDoor.Limb
def moF (m:Mo):Nat→Int:=fun i=>((m.at i:Nat):Int)
theorem moF_small {m:Mo} (h:m.Small):Mono.Small (moF m):=fun i _=>⟨Int.natCast_nonneg _,by have:=at_small h i;unfold moF;omega⟩
def keyO (o:Int) (m:Mo):Int:=Mono.KO o (moF m)
theorem cmpZ_dec {a b:Int}:Mono.cmpZ a b>0↔b<a:=by
 rcases Int.lt_trichotomy a b with h | h | h
 ·rw[Mono.cmpZ_lt h];omega
 ·rw[Mono.cmpZ_eq h];omega
 ·rw[Mono.cmpZ_gt h];omega
def put4 (w:World) (b:Nat) (v0 v1 v2 v3:Value):World:=(((w.setCell ⟨b,0,none⟩ v0).setCell ⟨b,1,none⟩ v1).setCell ⟨b,2,none⟩ v2).setCell ⟨b,3,none⟩ v3
theorem put4_bxs {w:World} {b:Nat} {t:TypeId} {u0 u1 u2 u3:Value} (h:Bxs w b t [u0,u1,u2,u3]) (v0 v1 v2 v3:Value):Bxs (put4 w b v0 v1 v2 v3) b t [v0,v1,v2,v3]:=(((h.put 0 v0).put 1 v1).put 2 v2).put 3 v3
theorem put4_kf {w:World} {b:Nat} {x:FV} {q:Rat} {t:TypeId} {u0 u1 u2 u3:Value} (h:KF w x q) (hb:Bxs w b t [u0,u1,u2,u3]) (n0:notInt u0=true) (n1:notInt u1=true) (n2:notInt u2=true) (n3:notInt u3=true) {v0 v1 v2 v3:Value} (m0:notInt v0=true) (m1:notInt v1=true) (m2:notInt v2=true):KF (put4 w b v0 v1 v2 v3) x q :=
 (((h.setBxs hb (by simp[n0,n1,n2,n3]) 0 v0).setBxs (hb.put 0 v0) (by simp[m0,n1,n2,n3]) 1 v1).setBxs ((hb.put 0 v0).put 1 v1) (by simp[m0,m1,n2,n3]) 2 v2).setBxs (((hb.put 0 v0).put 1 v1).put 2 v2) (by simp[m0,m1,m2,n3]) 3 v3
theorem put4_below {B:Nat} {u w:World} {b:Nat} (h:Below B u w) (hb:B≤b) (v0 v1 v2 v3:Value):Below B u (put4 w b v0 v1 v2 v3):=(((h.setCell hb v0).setCell hb v1).setCell hb v2).setCell hb v3
structure EF (w:World) (lo:Nat) (x:FV) (q:Rat):Prop where
 t:DN w lo x.t q.num
 l:DN w lo x.l (q.den:Int)
theorem EF.below {w w':World} {lo:Nat} {x:FV} {q:Rat} (h:EF w lo x q) (hb:Below w.heap.size w w'):EF w' lo x q:=⟨h.t.below hb,h.l.below hb⟩
theorem EF.mono {w:World} {lo lo':Nat} {x:FV} {q:Rat} (h:EF w lo x q) (hl:lo'≤lo):EF w lo' x q:=⟨h.t.mono hl,h.l.mono hl⟩
theorem EF.k {w:World} {lo:Nat} {x:FV} {q:Rat} (h:EF w lo x q):KF w x q:=⟨h.t.k,h.l.k⟩
theorem EF.kept {w w':World} {lo:Nat} {x:FV} {q:Rat} (h:EF w lo x q) (hk:∀ b,FV.blk x b→w'.heap[b]?=w.heap[b]?):EF w' lo x q:=⟨h.t.kept fun b hb=>hk b (Or.inl hb),h.l.kept fun b hb=>hk b (Or.inr hb)⟩
theorem EF.blks {w:World} {lo:Nat} {x:FV} {q:Rat} (h:EF w lo x q):∀ b,FV.blk x b→lo≤b∧b<w.heap.size:=fun b hb=>hb.elim (h.t.blks b) (h.l.blks b)
theorem EF.setBxs {w:World} {lo:Nat} {x:FV} {q:Rat} (h:EF w lo x q) {g:Nat} {t:TypeId} {l:List Value} (hb:Bxs w g t l) (ht:160≠t) (i:Nat) (v:Value):EF (w.setCell ⟨g,i,none⟩ v) lo x q:=⟨h.t.setBxs hb ht i v,h.l.setBxs hb ht i v⟩
def RKV (w:World) (q:Rat) (e:Ending) (w':World):Prop:=∃ y:FV,e=.returned y.v∧EF w' w.heap.size y q∧Below w.heap.size w w'
theorem FracF.rkv {w w':World} {q:Rat} {e:Ending} (h:FracF w q.num (q.den:Int) e w'):RKV w q e w':=by
 obtain⟨a1,c1,a2,c2,rfl,o1,o2,hb⟩:=h;exact⟨⟨⟨_,a1,_,c1⟩,⟨_,a2,_,c2⟩⟩,rfl,⟨⟨rfl,rfl,o1⟩,⟨rfl,rfl,o2⟩⟩,hb⟩
theorem rmulV {w:World} {x y:FV} {p q:Rat} (h1:AF w x p) (b1:LF x 900000) (h2:AF w y q) (b2:LF y 900000):Calls Tryz.prog 81 #[x.v,y.v] w (RKV w (p*q)):=by
 obtain⟨o1,o2,r1,r2,e1⟩:=h1.ex;obtain⟨o3,o4,r3,r4,e2⟩:=h2.ex
 exact(rfmul_any x.t.s x.t.a x.t.n x.t.c o1 x.l.s x.l.a x.l.n x.l.c o2 y.t.s y.t.a y.t.n y.t.c o3 y.l.s y.l.a y.l.n y.l.c o4 w p q e1.symm e2.symm r1 (by omega) h1.l1 r2 (by omega) h1.l2 r3 (by omega) h2.l1 r4 (by omega) h2.l2).mono fun _ _ h=>FracF.rkv h
theorem rnegV {w:World} {x:FV} {p:Rat} (h1:AF w x p) (b1:LF x 900000):Calls Tryz.prog 175 #[x.v] w (RKV w (-p)):=by
 obtain⟨o1,o2,r1,r2,e1⟩:=h1.ex
 exact(rfneg_any x.t.s x.t.a x.t.n x.t.c o1 x.l.s x.l.a x.l.n x.l.c o2 w p e1.symm r1 (by omega) h1.l1 r2 (by omega) h1.l2).mono fun _ _ h=>FracF.rkv h
theorem rsignV {w:World} {x:FV} {p:Rat} (h1:AF w x p) (b1:LF x 900000):Calls Tryz.prog 77 #[x.v] w fun e w'=>e=.returned (.int .i64 (cmpZ p.num 0))∧Below w.heap.size w w':=by
 obtain⟨o1,o2,r1,r2,e1⟩:=h1.ex;exact rfsign_any x.t.s x.t.a x.t.n x.t.c o1 x.l.s x.l.a x.l.n x.l.c o2 w p e1.symm r1 (by omega) h1.l1 r2 (by omega) h1.l2
theorem rofV (n:Int) (w:World) (h1:-9223372036854775808≤n) (h2:n≤9223372036854775807):Calls Tryz.prog 76 #[.int .i64 n] w (RKV w (n:Rat)) :=
 (rfof_any n w h1 h2).mono fun _ _ h=>FracF.rkv (q:=(n:Rat)) (by rw[Rat.num_intCast,Rat.den_intCast];exact h)
open Classical in
theorem rcheckV {w:World} {x:FV} {p:Rat} (h1:KF w x p) (b1:LF x 900000):Calls Tryz.prog 128 #[x.v] w fun e w'=>e=.returned (.bool true)∧Below w.heap.size w w':=by
 have h:=rfcheck_any x.t.s x.t.a x.t.n x.t.c _ x.l.s x.l.a x.l.n x.l.c _ w h1.t.rd (by omega) h1.t.le h1.l.rd (by omega) h1.l.le;rw[decide_eq_true (by rw[h1.t.s,h1.t.n,h1.l.s,h1.l.n];exact okF_canon p)] at h;exact h
open Classical in
theorem rcheckVB {w:World} {x:FV} (h1:BF w x) (b1:LF x 900000):Calls Tryz.prog 128 #[x.v] w fun e w'=>e=.returned (.bool false)∧Below w.heap.size w w':=by
 obtain⟨o1,o2,r1,r2,hk⟩:=h1.ex;have h:=rfcheck_any x.t.s x.t.a x.t.n x.t.c o1 x.l.s x.l.a x.l.n x.l.c o2 w r1 (by omega) h1.l1 r2 (by omega) h1.l2;rw[decide_eq_false hk] at h;exact h
theorem rcmpV (o:Int) (a b:Mo) (w:World) (ha:a.Small) (hb:b.Small):Calls Tryz.prog 151 #[.int .u8 o,Mo.v a,Mo.v b] w fun e w'=>e=.returned (.int .i64 (Mono.cmpZ (keyO o a) (keyO o b)))∧Below w.heap.size w w':=by
 have h:=Mono.rcmp_any o (moF a) (moF b) w (moF_small ha) (moF_small hb);rw[Mono.cmp_key (o:=o) (moF_small ha) (moF_small hb)] at h;exact h
theorem lt_key0 {a b:Mo} (ha:a.Small) (hb:b.Small):a.lt b↔keyO 0 a<keyO 0 b:=by
 have hk:∀ m:Mo,keyO 0 m=(m.x:Int)*281474976710656+(m.y:Int)*4294967296+(m.z:Int)*65536+(m.t:Int):=fun m=>by
  unfold keyO Mono.KO;rw[if_neg (by decide),if_neg (by decide)]
  rfl
 obtain⟨a1,a2,a3,a4⟩:=ha;obtain⟨b1,b2,b3,b4⟩:=hb;rw[hk,hk];unfold Mo.lt;omega
end Go.Proofs.YtgkkbkoiaccmfaaGreatDoor.Pol

