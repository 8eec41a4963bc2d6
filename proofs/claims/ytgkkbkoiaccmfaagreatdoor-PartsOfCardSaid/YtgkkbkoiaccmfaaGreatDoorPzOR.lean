/-
  The law PartsOf: whatever it is handed, it returns true, and what it was handed reads behind the call as it read before; the card ties the listed tables to the program's text.
-/
import Derived.Test.YtgkkbkoiaccmfaaGreatDoorPzOQ
import Derived.Test.YtgkkbkoiaccmfaaGreatDoorCards
import Derived.Test.YtgkkbkoiaccmfaaGreatDoorTie
import Derived.WalkKit
import Derived.ProofKit
import Derived.OpenShut
import Derived.Deep.DeepHandedRow
import Derived.Lib.LaidTab
set_option linter.unusedSimpArgs false
set_option linter.unusedVariables false
set_option maxHeartbeats 16000000
set_option maxRecDepth 100000
namespace Go.Proofs.YtgkkbkoiaccmfaaGreatDoor
namespace Pol
open Go.RowKit Go.Sort Limb Book
theorem jbw (x1:PV) (L1:List TO) (w:World) (h1:YE w x1 L1) :
  Calls Tryz.prog 5 #[.slice x1.a x1.n x1.c] w fun e w'=>e=.returned (.bool true)/\Below w.heap.size w w':=by
 have KG:=qh (Below.refl w.heap.size w);have N1:=qh h1;clear h1;go_enter Tryz.func5,Tryz.ntmps5;go_wp2_with fail
 obtain⟨w1,hV⟩:∃ V,V=w.alloc (.cells #[.slice x1.a x1.n x1.c] 23):=⟨_,rfl⟩
 have hb:Below w.heap.size w w1:=by rw[hV];exact zk.alloc zj _
 have BXG:=qh (show Bxs w1 w.heap.size 23 [.slice x1.a x1.n x1.c] by rw[hV];exact Bxs.new w 23 [.slice x1.a x1.n x1.c]);rw[<- hV];have KG:=qk KG hb;clear hV hb;have CT:=qh (show Calls Tryz.prog 10 #[.int .i64 30,.slice (some ⟨w.heap.size,0,none⟩) 1 1] w1 _ from great1P (m:=30) BXG.o (N1.o.below KG.o) (by decide));with_reducible refine CT.o.mono ?_
 rintro e w2 ⟨gb,rfl,hn,hb⟩;clear CT BXG;have KG:=qk KG hb;clear hb
 rcases Bool.eq_false_or_eq_true gb with rfl | rfl
 ·clear hn;go_wp2_with fail
  go_ret;exact⟨rfl,KG.o⟩
 have GX:=qh (hn rfl);clear hn;obtain⟨P1,ok1,hsa⟩:=sa_of (E:=65535) N1.o GX.o (fun e he=>N1.o.2.2.2.2 e he) (by decide);have HXN1:=qh (show x1.n<=30 from by have h1:=(GX.o).1;have h2:=N1.o.2.1;rw[List.length_map] at h1;omega);have HPC1:=qh hsa.b;have HA1:=qh (hsa.below KG.o);clear hsa;clear N1 GX;have W1:=qh (show Bt w2 w2 from⟨zk⟩);have IG1:=qh (KG.o.size);have CT:=qh (show Calls Tryz.prog 12 #[.slice x1.a x1.n x1.c] w2 _ from twin_sa HA1.o (by decide));go_wp2_with fail
 with_reducible refine CT.o.mono ?_
 rintro e w3 ⟨y1,rfl,hyn,hya,htw,hb⟩;clear CT;have KG:=qk KG hb;have HA1:=qh (HA1.o.below hb);have W1:=qh (W1.o.below hb);have HYN1:=qh hyn;have HY1:=qh hya;have HT1:=qh htw;clear hyn hya;have G1:=qh (show GP w3 y1 (0) w2.heap.size w3.heap.size from Tw2.gp htw (by have:=HXN1.o;omega) hb.size (by have:=HXN1.o;omega));clear hb;clear htw;have HPP:=qh (ja2 HPC1.o (by decide) (by decide));have LQC:=qh (HPP.o.1.up (show 400<=900000 by decide));have IG2:=qh (G1.o.le);have CT:=qh (show Calls Tryz.prog 32 #[.slice y1.a y1.n y1.c] w3 _ from jem HY1.o (by decide) (by decide));go_wp2_with fail
 with_reducible refine CT.o.mono ?_
 rintro e w4 ⟨cc,rfl,hcc,hb⟩;clear CT;have KG:=qk KG hb;have HA1:=qh (HA1.o.below hb);have W1:=qh (W1.o.below hb);have G1:=qh (G1.o.below hb);have HY1:=qh (HY1.o.below hb);have HT1:=qh (HT1.o.below hb);have DC:=qh hcc;have NCC:=qh hcc.k;have G2:=qh (show GF w4 cc (0+2*y1.n+1) w3.heap.size w4.heap.size from TOwn.gf (DF.town hcc LQC.o) hb.size (by have:=HXN1.o;have:=HYN1.o;omega));clear hb;clear hcc
 go_upto_region 5 with (fail)
 obtain⟨w5,hV⟩:∃ V,V=w4.alloc (.cells #[.bool cc.t.s,.slice cc.t.a cc.t.n cc.t.c,.bool cc.l.s,.slice cc.l.a cc.l.n cc.l.c] 28):=⟨_,rfl⟩
 have hb:Below w4.heap.size w4 w5:=by rw[hV];exact zk.alloc zj _
 have BXC:=qh (show Bxs w5 w4.heap.size 28 [.bool cc.t.s,.slice cc.t.a cc.t.n cc.t.c,.bool cc.l.s,.slice cc.l.a cc.l.n cc.l.c] by rw[hV];exact Bxs.new w4 28 [.bool cc.t.s,.slice cc.t.a cc.t.n cc.t.c,.bool cc.l.s,.slice cc.l.a cc.l.n cc.l.c]);obtain⟨ABXC,hA⟩:∃ A,A=w4.heap.size:=⟨_,rfl⟩;rw[<- hV,<- hA];rw[<- hA] at BXC;have HBXC:=qh hA;clear hA hV;have KG:=qk KG hb;have HA1:=qh (HA1.o.below hb);have W1:=qh (W1.o.below hb);have G1:=qh (G1.o.below hb);have HY1:=qh (HY1.o.below hb);have HT1:=qh (HT1.o.below hb);have G2:=qh (G2.o.below hb);have DC:=qh (DC.o.below hb);have NCC:=qh (NCC.o.below hb);clear hb;have Qz1:=qh (show ∀ t∈(Xj P1),LQ t.2 900000 from HPP.o.2.lq (by decide));have Lz1:=qh (show(Xj P1).length<=30 from HPP.o.2.b.len);have IG3:=qh (G2.o.le);have cBXC0:=BXC.o.ce 0;have cBXC1:=BXC.o.ce 1;have cBXC2:=BXC.o.ce 2;have cBXC3:=BXC.o.ce 3;have CT:=qh (show Calls Tryz.prog 33 #[.slice y1.a y1.n y1.c] w5 _ from jf0 HY1.o (by decide) (by decide) (by decide));go_wp2_with fail
 with_reducible refine CT.o.mono ?_
 rintro e w6 ⟨z1,rfl,hz,hb⟩;clear CT cBXC0 cBXC1 cBXC2 cBXC3;have KG:=qk KG hb;have HA1:=qh (HA1.o.below hb);have W1:=qh (W1.o.below hb);have G1:=qh (G1.o.below hb);have HY1:=qh (HY1.o.below hb);have HT1:=qh (HT1.o.below hb);have G2:=qh (G2.o.below hb);have DC:=qh (DC.o.below hb);have NCC:=qh (NCC.o.below hb);have BXC:=qh (BXC.o.bl hb);have Dz1:=qh hz;have HNz1:=qh hz.k.len;have G3:=qh (show GP w6 z1 (0+2*y1.n+1+2) w5.heap.size w6.heap.size from DP.gp hz Qz1.o (by have:=HXN1.o;have:=HYN1.o;have:=Lz1.o;omega) hb.size (by have:=hz.k.len;have:=HXN1.o;have:=HYN1.o;have:=Lz1.o;omega));clear hb;clear hz;have Qz2:=qh (show ∀ t∈(Xj P1),LQ t.2 900000 from HPP.o.2.lq (by decide));have Lz2:=qh (show(Xj P1).length<=30 from HPP.o.2.b.len);have IG4:=qh (G3.o.le);have cBXC0:=BXC.o.ce 0;have cBXC1:=BXC.o.ce 1;have cBXC2:=BXC.o.ce 2;have cBXC3:=BXC.o.ce 3;have CT:=qh (show Calls Tryz.prog 33 #[.slice y1.a y1.n y1.c] w6 _ from jf0 HY1.o (by decide) (by decide) (by decide));go_wp2_with fail
 with_reducible refine CT.o.mono ?_
 rintro e w7 ⟨z2,rfl,hz,hb⟩;clear CT cBXC0 cBXC1 cBXC2 cBXC3;have KG:=qk KG hb;have HA1:=qh (HA1.o.below hb);have W1:=qh (W1.o.below hb);have G1:=qh (G1.o.below hb);have HY1:=qh (HY1.o.below hb);have HT1:=qh (HT1.o.below hb);have G2:=qh (G2.o.below hb);have DC:=qh (DC.o.below hb);have NCC:=qh (NCC.o.below hb);have BXC:=qh (BXC.o.bl hb);have G3:=qh (G3.o.below hb);have Dz1:=qh (Dz1.o.below hb);have Dz2:=qh hz;have HNz2:=qh hz.k.len;have G4:=qh (show GP w7 z2 (0+2*y1.n+1+2+2*z1.n+1) w6.heap.size w7.heap.size from DP.gp hz Qz2.o (by have:=HXN1.o;have:=HYN1.o;have:=Lz1.o;have:=HNz1.o;have:=Lz2.o;omega) hb.size (by have:=hz.k.len;have:=HXN1.o;have:=HYN1.o;have:=Lz1.o;have:=HNz1.o;have:=Lz2.o;omega));clear hb;clear hz
 go_upto_region 7 with (fail)
 refine FS.Jc 21 [] (FS.JM [(2,FS.Sp.made (fun x:FV=>x.v) (fun x w'=>EF w' w7.heap.size x (JW P1)) FV.blk),(3,FS.Sp.know (.bool true)),(8,FS.Sp.made (fun x:PV=>x.v) (fun x w'=>EP w' w7.heap.size x (Xj P1)) (fun _ _=>False)),(9,FS.Sp.know (.bool true)),(15,FS.Sp.know (.bool true))])
  (fun w'=>Below w7.heap.size w7 w') (by kernel_rfl) (by kernel_rfl) (by kernel_rfl)
  (FS.Jd (FS.Sp.Jg _ (fun _ _ _ h _ hk=>h.kept hk) (FS.JN (by kernel_rfl))) (FS.Jd (FS.Sp.Jl _ _) (FS.Jd (FS.Sp.Yq _ rowE (fun _ _ _ h hs=>h.rows hs) (by kernel_rfl) (FS.JN (by kernel_rfl))) (FS.Jd (FS.Sp.Jl _ _) (FS.Jd (FS.Sp.Jl _ _) (FS.Jk)))))) (fun _ _ h hb=>h.trans (hb.mono h.size)) (zk.drew) ?_
 simp only[zu,zi,ze,zx,zy,zv,zw]
 iterate 2
  refine FS.Jb rfl rfl rfl ?_ (fun w' hw'=>?_) ?_;rotate_left
  ·have hb':=hw'.world;have hs0:=(BXC.o.bl hb').ce 0;have hs1:=(BXC.o.bl hb').ce 1;have hs2:=(BXC.o.bl hb').ce 2;have hs3:=(BXC.o.bl hb').ce 3;have hsf:=(BXC.o.bl hb').fz;have hsl:=(BXC.o.bl hb').lt;clear hw';go_simp
   try rfl
  conv=>arg 10;simp only[Act.put,zq0,zq1,zq2]
 refine FS.Jf rfl rfl rfl (fun w' hw'=>?_) ?_
 ·have hb':=hw'.world;refine FS.Jn (FS.PM (fun x:FV=>x.v) (fun x w'=>EF w' w7.heap.size x (JW P1)) FV.blk w'.heap.size) ?_ (fun _ _ h=>h.post (fun _ _=>FV.inj));go_simp;have CT:=(show Calls Tryz.prog 34 #[.slice x1.a x1.n x1.c] w' _ from jbv (HA1.o.below hb') (by decide) (by decide));refine CT.mono ?_;rintro e w'' ⟨za,rfl,ho,hb⟩;exact⟨_,rfl,⟨za,rfl,ho.mono hb'.size,ho.QK⟩,hb⟩
 rintro _ ⟨y2,rfl⟩
 conv=>arg 10;simp only[Act.put,zq0,zq1,zq2]
 refine FS.Jf rfl rfl rfl (fun w' hw'=>?_) ?_
 ·have hb':=hw'.world;refine FS.Jn (FS.PK (.bool true)) ?_ (fun _ _ h=>h.post);go_simp;have f2:=FS.JU (val:=(fun x:FV=>x.v)) (Φ:=fun x w'=>EF w' w7.heap.size x (JW P1)) (fun _ _=>FV.inj) (hw'.fact 2 (by kernel_rfl));have CT:=(show Calls Tryz.prog 31 #[.agg #[.bool cc.t.s,.slice cc.t.a cc.t.n cc.t.c,.bool cc.l.s,.slice cc.l.a cc.l.n cc.l.c],.agg #[.bool y2.t.s,.slice y2.t.a y2.t.n y2.t.c,.bool y2.l.s,.slice y2.l.a y2.l.n y2.l.c]] w' _ from jfl (x1:=cc) (x2:=y2) (NCC.o.below hb') ((NCC.o.below hb').len LQC.o zj) f2.k (f2.k.len LQC.o zj) rfl);refine CT.mono ?_;rintro e w'' ⟨rfl,hb⟩;exact⟨_,rfl,rfl,hb⟩
 rintro _ rfl
 conv=>arg 10;simp only[Act.put,zq0,zq1,zq2]
 iterate 2
  refine FS.Jb rfl rfl rfl ?_ (fun w' hw'=>?_) ?_;rotate_left
  ·have hb':=hw'.world;skip;clear hw';go_simp
   try rfl
  conv=>arg 10;simp only[Act.put,zq0,zq1,zq2]
 iterate 2
  refine FS.Jm (by rfl) rfl rfl ?_ (fun w' hw'=>?_) ?_;rotate_left
  ·have hb':=hw'.world;skip;clear hw';go_simp
   try rfl
  conv=>arg 10;simp only[Act.put,zq0,zq1,zq2]
 refine FS.JC (by rfl) rfl rfl (fun w' hw'=>?_) ?_
 ·have hb':=hw'.world;refine FS.Jn (FS.PM (fun x:PV=>x.v) (fun x w'=>EP w' w7.heap.size x (Xj P1)) (fun _ _=>False) w'.heap.size) ?_ (fun _ _ h=>h.post (fun _ _=>PV.inj));go_simp;have CT:=(show Calls Tryz.prog 35 #[.slice x1.a x1.n x1.c] w' _ from rprim_sa (HA1.o.below hb') (by decide) (by decide));refine CT.mono ?_;rintro e w'' ⟨za,rfl,ho,hb⟩;exact⟨_,rfl,⟨za,rfl,ho.mono hb'.size,fun _ h=>False.elim h⟩,hb⟩
 rintro _ ⟨y8,rfl⟩
 conv=>arg 10;simp only[Act.put,zq0,zq1,zq2]
 refine FS.JC (by rfl) rfl rfl (fun w' hw'=>?_) ?_
 ·have hb':=hw'.world;refine FS.Jn (FS.PK (.bool true)) ?_ (fun _ _ h=>h.post);go_simp;have f8:=FS.JU (val:=(fun x:PV=>x.v)) (Φ:=fun x w'=>EP w' w7.heap.size x (Xj P1)) (fun _ _=>PV.inj) (hw'.fact 8 (by kernel_rfl));have CT:=(show Calls Tryz.prog 18 #[.slice z1.a z1.n z1.c,.slice y8.a y8.n y8.c] w' _ from same_k z1 y8 _ w' (Dz1.o.below hb').k f8.k Qz1.o (by have:=Lz1.o;omega));refine CT.mono ?_;rintro e w'' ⟨rfl,hb⟩;exact⟨_,rfl,rfl,hb⟩
 rintro _ rfl
 conv=>arg 10;simp only[Act.put,zq0,zq1,zq2]
 refine FS.Jm (by rfl) rfl rfl ?_ (fun w' hw'=>?_) ?_;rotate_left
 ·have hb':=hw'.world;skip;clear hw';go_simp
  try rfl
 conv=>arg 10;simp only[Act.put,zq0,zq1,zq2]
 iterate 2
  refine FS.Jb rfl rfl rfl ?_ (fun w' hw'=>?_) ?_;rotate_left
  ·have hb':=hw'.world;skip;clear hw';go_simp
   try rfl
  conv=>arg 10;simp only[Act.put,zq0,zq1,zq2]
 iterate 2
  refine FS.Jm (by rfl) rfl rfl ?_ (fun w' hw'=>?_) ?_;rotate_left
  ·have hb':=hw'.world;skip;clear hw';go_simp
   try rfl
  conv=>arg 10;simp only[Act.put,zq0,zq1,zq2]
 refine FS.JC (by rfl) rfl rfl (fun w' hw'=>?_) ?_
 ·have hb':=hw'.world;refine FS.Jn (FS.PK (.bool true)) ?_ (fun _ _ h=>h.post);go_simp;have CT:=(show Calls Tryz.prog 18 #[.slice z2.a z2.n z2.c,.slice z1.a z1.n z1.c] w' _ from same_k z2 z1 _ w' (Dz2.o.below hb').k (Dz1.o.below hb').k Qz1.o (by have:=Lz1.o;omega));refine CT.mono ?_;rintro e w'' ⟨rfl,hb⟩;exact⟨_,rfl,rfl,hb⟩
 rintro _ rfl
 conv=>arg 10;simp only[Act.put,zq0,zq1,zq2]
 refine FS.Jm (by rfl) rfl rfl ?_ (fun w' hw'=>?_) ?_;rotate_left
 ·have hb':=hw'.world;skip;clear hw';go_simp
  try rfl
 conv=>arg 10;simp only[Act.put,zq0,zq1,zq2]
 iterate 2
  refine FS.Jb rfl rfl rfl ?_ (fun w' hw'=>?_) ?_;rotate_left
  ·have hb':=hw'.world;skip;clear hw';go_simp
   try rfl
  conv=>arg 10;simp only[Act.put,zq0,zq1,zq2]
 iterate 2
  refine FS.Jm (by rfl) rfl rfl ?_ (fun w' hw'=>?_) ?_;rotate_left
  ·have hb':=hw'.world;skip;clear hw';go_simp
   try rfl
  conv=>arg 10;simp only[Act.put,zq0,zq1,zq2]
 refine FS.Jo (fun w1201 hb hF=>?_);clear hF;have HA1:=qh (HA1.o.below hb);have W1:=qh (W1.o.below hb);have G1:=qh (G1.o.below hb);have HY1:=qh (HY1.o.below hb);have HT1:=qh (HT1.o.below hb);have G2:=qh (G2.o.below hb);have DC:=qh (DC.o.below hb);have NCC:=qh (NCC.o.below hb);have G3:=qh (G3.o.below hb);have Dz1:=qh (Dz1.o.below hb);have G4:=qh (G4.o.below hb);have Dz2:=qh (Dz2.o.below hb);have BXC:=qh (BXC.o.bl hb);have KG:=qk KG hb;clear hb;have cBXC0:=BXC.o.ce 0;have cBXC1:=BXC.o.ce 1;have cBXC2:=BXC.o.ce 2;have cBXC3:=BXC.o.ce 3;have CT:=qh (show Calls Tryz.prog 21 #[.slice y1.a y1.n y1.c,.slice x1.a x1.n x1.c] w1201 _ from HT1.o.left W1.o.b (by have:=HXN1.o;omega));go_wp2_with fail
 with_reducible refine CT.o.mono ?_
 rintro e w8 ⟨rfl,hb⟩;clear CT cBXC0 cBXC1 cBXC2 cBXC3;have KG:=qk KG hb;have HA1:=qh (HA1.o.below hb);have W1:=qh (W1.o.below hb);have G1:=qh (G1.o.below hb);have HY1:=qh (HY1.o.below hb);have HT1:=qh (HT1.o.below hb);have G2:=qh (G2.o.below hb);have DC:=qh (DC.o.below hb);have NCC:=qh (NCC.o.below hb);have BXC:=qh (BXC.o.bl hb);have G3:=qh (G3.o.below hb);have Dz1:=qh (Dz1.o.below hb);have G4:=qh (G4.o.below hb);have Dz2:=qh (Dz2.o.below hb);clear hb;clear Dz1 Dz2 HT1 HA1 HY1 W1 NCC DC;have HKW:=qh (show w.heap.size<=w8.heap.size from KG.o.size);have JG1:=qh G1.o.le;have JG2:=qh G2.o.le;have JG3:=qh G3.o.le;have JG4:=qh G4.o.le;have cBXC0:=BXC.o.ce 0;have cBXC1:=BXC.o.ce 1;have cBXC2:=BXC.o.ce 2;have cBXC3:=BXC.o.ce 3
 go_upto_region 10 with (fail)
 obtain⟨w9,hV⟩:∃ V,V=w8.alloc (.cells book0 53):=⟨_,rfl⟩
 have hb:Below w8.heap.size w8 w9:=by rw[hV];exact zk.alloc zj _
 have HB:=qh (show BG w9 w8.heap.size w8.heap.size 0 w.heap.size w.heap.size 0 0 by rw[hV];exact BG.new w8 KG.o.size);rw[show w8.alloc (.cells #[.int .i64 0,.slice none 0 0,.slice none 0 0,.slice none 0 0,.slice none 0 0,.slice none 0 0,.slice none 0 0,.slice none 0 0,.slice none 0 0,.slice none 0 0,.slice none 0 0,.slice none 0 0,.slice none 0 0] 53)=w9 from hV.symm];have KG:=qk KG hb;have G1:=qh (G1.o.below hb);have G2:=qh (G2.o.below hb);have BXC:=qh (BXC.o.bl hb);have G3:=qh (G3.o.below hb);have G4:=qh (G4.o.below hb);obtain⟨bs,hbs⟩:∃ b,b=w8.heap.size:=⟨_,rfl⟩;rw[<- hbs] at JG1;rw[<- hbs] at JG2;rw[<- hbs] at JG3;rw[<- hbs] at JG4;have HBW:=qh (show w.heap.size<=bs by rw[hbs];exact(show w.heap.size<=w8.heap.size from HKW.o));rw[<- hbs] at HB ⊢;clear hbs hV hb HKW cBXC0 cBXC1 cBXC2 cBXC3;have cBXC0:=BXC.o.ce 0;have cBXC1:=BXC.o.ce 1;have cBXC2:=BXC.o.ce 2;have cBXC3:=BXC.o.ce 3;have CT:=qh (show Calls Tryz.prog 23 #[.pointer (some ⟨bs,0,none⟩),.slice y1.a y1.n y1.c] w9 _ from HB.o.polyP G1.o IG1.o JG1.o (by have:=HXN1.o;have:=HYN1.o;have:=Lz1.o;have:=HNz1.o;have:=Lz2.o;have:=HNz2.o;omega));go_wp2_with fail
 with_reducible refine CT.o.mono ?_
 rintro e w10 ⟨⟨r,rfl⟩,hB,hk⟩;have HB:=qh hB;have KG:=qh (KG.o.trans (hk.bel.mono HBW.o));have G2:=qh (G2.o.QE hk JG2.o);have G3:=qh (G3.o.QE hk JG3.o);have G4:=qh (G4.o.QE hk JG4.o);have BXC:=qh (Bxs.QE BXC.o hk (by decide));clear CT hB hk G1 IG1 cBXC0 cBXC1 cBXC2 cBXC3;have cBXC0:=BXC.o.ce 0;have cBXC1:=BXC.o.ce 1;have cBXC2:=BXC.o.ce 2;have cBXC3:=BXC.o.ce 3;have CT:=qh (show Calls Tryz.prog 24 #[.pointer (some ⟨bs,0,none⟩),.agg #[.bool cc.t.s,.slice cc.t.a cc.t.n cc.t.c,.bool cc.l.s,.slice cc.l.a cc.l.n cc.l.c]] w10 _ from HB.o.fracP G2.o IG2.o JG2.o (by have:=HXN1.o;have:=HYN1.o;have:=Lz1.o;have:=HNz1.o;have:=Lz2.o;have:=HNz2.o;omega));go_wp2_with fail
 with_reducible refine CT.o.mono ?_
 rintro e w11 ⟨⟨r,rfl⟩,hB,hk⟩;have HB:=qh hB;have KG:=qh (KG.o.trans (hk.bel.mono HBW.o));have G3:=qh (G3.o.QE hk JG3.o);have G4:=qh (G4.o.QE hk JG4.o);have BXC:=qh (Bxs.QE BXC.o hk (by decide));clear CT hB hk G2 IG2 cBXC0 cBXC1 cBXC2 cBXC3;have cBXC0:=BXC.o.ce 0;have cBXC1:=BXC.o.ce 1;have cBXC2:=BXC.o.ce 2;have cBXC3:=BXC.o.ce 3;have CT:=qh (show Calls Tryz.prog 23 #[.pointer (some ⟨bs,0,none⟩),.slice z1.a z1.n z1.c] w11 _ from HB.o.polyP G3.o IG3.o JG3.o (by have:=HXN1.o;have:=HYN1.o;have:=Lz1.o;have:=HNz1.o;have:=Lz2.o;have:=HNz2.o;omega));go_wp2_with fail
 with_reducible refine CT.o.mono ?_
 rintro e w12 ⟨⟨r,rfl⟩,hB,hk⟩;have HB:=qh hB;have KG:=qh (KG.o.trans (hk.bel.mono HBW.o));have G4:=qh (G4.o.QE hk JG4.o);have BXC:=qh (Bxs.QE BXC.o hk (by decide));clear CT hB hk G3 IG3 cBXC0 cBXC1 cBXC2 cBXC3;have cBXC0:=BXC.o.ce 0;have cBXC1:=BXC.o.ce 1;have cBXC2:=BXC.o.ce 2;have cBXC3:=BXC.o.ce 3;have CT:=qh (show Calls Tryz.prog 23 #[.pointer (some ⟨bs,0,none⟩),.slice z2.a z2.n z2.c] w12 _ from HB.o.polyP G4.o IG4.o JG4.o (by have:=HXN1.o;have:=HYN1.o;have:=Lz1.o;have:=HNz1.o;have:=Lz2.o;have:=HNz2.o;omega));go_wp2_with fail
 with_reducible refine CT.o.mono ?_
 rintro e w13 ⟨⟨r,rfl⟩,hB,hk⟩;have HB:=qh hB;have KG:=qh (KG.o.trans (hk.bel.mono HBW.o));have BXC:=qh (Bxs.QE BXC.o hk (by decide));clear CT hB hk G4 IG4 cBXC0 cBXC1 cBXC2 cBXC3;have CT:=qh (show Calls Tryz.prog 25 #[.pointer (some ⟨bs,0,none⟩)] w13 _ from HB.o.apartA (by omega) (by have:=HXN1.o;have:=HYN1.o;have:=Lz1.o;have:=HNz1.o;have:=Lz2.o;have:=HNz2.o;omega));go_wp2_with fail
 with_reducible refine CT.o.mono ?_
 rintro e w14 ⟨rfl,hb⟩;go_wp2_with fail
 go_ret;exact⟨rfl,KG.o.trans hb⟩
end Pol
namespace Limb
open Go.RowKit Go.Sort Pol
open Go.ChangeShapes Go.WideShapes Go.ChangeAt
namespace PartsOfC
theorem own:ownKnob Tryz.prog.godebug=none:=by kernel_rfl
theorem laidOut:laidOutB Tryz.prog=true:=by kernel_rfl
noncomputable def Yo (os:Os):World :=
 { World.holding Tryz.prog os ⟨#[],#[],[]⟩ with heap:=((((World.holding Tryz.prog os ⟨#[],#[],[]⟩).heap.modify 0 fun
   | .cells _ t frozen=>.cells #[.int .u64 1,.int .u64 10,.int .u64 100,.int .u64 1000,.int .u64 10000,.int .u64 100000,.int .u64 1000000,.int .u64 10000000,.int .u64 100000000,.int .u64 1000000000,.int .u64 10000000000,.int .u64 100000000000,.int .u64 1000000000000,.int .u64 10000000000000,.int .u64 100000000000000,.int .u64 1000000000000000,.int .u64 10000000000000000,.int .u64 100000000000000000,.int .u64 1000000000000000000,.int .u64 10000000000000000000] t frozen
   | o=>o).modify 1 fun
   | .cells _ t frozen=>.cells #[.int .u8 0,.int .u8 1,.int .u8 28,.int .u8 2,.int .u8 29,.int .u8 14,.int .u8 24,.int .u8 3,.int .u8 30,.int .u8 22,.int .u8 20,.int .u8 15,.int .u8 25,.int .u8 17,.int .u8 4,.int .u8 8,.int .u8 31,.int .u8 27,.int .u8 13,.int .u8 23,.int .u8 21,.int .u8 19,.int .u8 16,.int .u8 7,.int .u8 26,.int .u8 12,.int .u8 18,.int .u8 6,.int .u8 11,.int .u8 5,.int .u8 10,.int .u8 9] t frozen
   | o=>o).modify 2 fun
   | .cells _ t frozen=>.cells #[.int .u8 0,.int .u8 1,.int .u8 56,.int .u8 2,.int .u8 57,.int .u8 49,.int .u8 28,.int .u8 3,.int .u8 61,.int .u8 58,.int .u8 42,.int .u8 50,.int .u8 38,.int .u8 29,.int .u8 17,.int .u8 4,.int .u8 62,.int .u8 47,.int .u8 59,.int .u8 36,.int .u8 45,.int .u8 43,.int .u8 51,.int .u8 22,.int .u8 53,.int .u8 39,.int .u8 33,.int .u8 30,.int .u8 24,.int .u8 18,.int .u8 12,.int .u8 5,.int .u8 63,.int .u8 55,.int .u8 48,.int .u8 27,.int .u8 60,.int .u8 41,.int .u8 37,.int .u8 16,.int .u8 46,.int .u8 35,.int .u8 44,.int .u8 21,.int .u8 52,.int .u8 32,.int .u8 23,.int .u8 11,.int .u8 54,.int .u8 26,.int .u8 40,.int .u8 15,.int .u8 34,.int .u8 20,.int .u8 31,.int .u8 10,.int .u8 25,.int .u8 14,.int .u8 19,.int .u8 9,.int .u8 13,.int .u8 8,.int .u8 7,.int .u8 6] t frozen
   | o=>o) }
noncomputable def Vx:Array Value:=#[.slice none 0 0]
theorem laid_met (os:Os):laidMet Tryz.prog Rows.partsOfRow.laid ((Yo os).forCall (fun _ _=>0) ⟨#[],Vx,[]⟩).memory :=
 laidMet_of_run' 8 (by kernel_rfl) (by kernel_rfl)
theorem reads (os:Os) {H:Type} (enc:TypeId × Value->H):∃ places,DataW.whole enc Tryz.prog ((Yo os).forCall (fun _ _=>0) ⟨#[],Vx,[]⟩).memory Tryz.f5.params.toList Rows.partsOfSpec.vars false Vx.toList 8=some ([.nil],[],places) :=
 ⟨[],by kernel_rfl⟩
theorem lifted (os:Os) (started:os.Started) (H:Type) (enc:TypeId × Value->H) (F:Stop.Interp) :
  ReturnsInHanded {} Tryz.checked os 5 .any ((OpenSpec.ofChange Rows.partsOfSpec).preRow enc Tryz.prog Tryz.f5 Rows.partsOfRow.domain false Rows.partsOfRow.laid) (((OpenSpec.ofChange Rows.partsOfSpec).at F).post enc Tryz.prog Tryz.f5 false true false false):=by
 obtain⟨places,hx⟩:=reads os enc
 refine returnsInHanded_of_row (C:=Tryz.checked) (s:=OpenSpec.ofChange Rows.partsOfSpec) own started (by kernel_rfl) Tryz.func5
  (witness_row_at (enc:=enc) (C:=Tryz.checked) false (Yo os) Vx rfl (by kernel_rfl) (by kernel_rfl) (by kernel_rfl)
   (OpenSpec.preRow_of_cond 8 hx (by kernel_rfl) (fun k hk=>by cases hk) (by kernel_rfl) (laid_met os))) ?_
 intro W base args ds gs before hval0 hW _ _ _ _ _ _;have hval:∀ (j:Nat) t v,Tryz.f5.params[j]?=some t->args[j]?=some v->Value.okWide Tryz.prog W .any base t v:=hval0;have hW':=hW;obtain⟨p,q,hA0,hV,rfl,hfz,hnd⟩:=hW;have hA:DataW.TrodAll enc Tryz.prog W 0 (fun _=>true) true Tryz.f5.params.toList args.toList ds p:=hA0;rw[Tryz.params5] at hA hval;obtain⟨v0,d0,rfl,rfl,h0⟩:=trodAll_one hA;obtain⟨rfl,rfl⟩:=trodVars_none hV;obtain⟨x0,L0,rfl,r0⟩:=jhc (hval 0 23 v0 rfl rfl) h0
 refine(jbw x0 L0 W r0).mono fun e W' ⟨he,hg⟩=>?_
 subst he;exact⟨_,rfl,LawPost.law_post laidOut (by kernel_rfl) (by kernel_rfl) Tryz.underlying4 hW' rfl rfl hg⟩
theorem k4:mapsRowed Tryz.prog=true:=by kernel_rfl
theorem k10:(Rows.partsOfRow.inPlace==Tryz.prog.inPlace 5)=true:=by kernel_rfl
theorem k11:(Rows.partsOfRow.unfollowed==Tryz.prog.unfollowed 5)=true:=by kernel_rfl
theorem k12:(Rows.partsOfRow.recurses==Tryz.prog.recurses 5)=true:=by kernel_rfl
theorem k13:(Rows.partsOfRow.named==Tryz.prog.varsNamed 5)=true:=by kernel_rfl
theorem closed:joinedFacts Tryz.prog 5 Tryz.f5 (OpenSpec.ofChange Rows.partsOfSpec).bare Rows.partsOfRow=true:=by
 unfold joinedFacts;rw[laidOut,k4,k10,k11,k12,k13]
 kernel_rfl
theorem said:Rows.PartsOfSaid :=
 OpenClaim.holds_of_cond 5 Tryz.f5 rfl rfl rfl rfl rfl rfl rfl ⟨rfl,rfl,rfl,rfl,rfl⟩ rfl rfl rfl rfl rfl (by kernel_rfl) Tryz.func5 closed
  (of_decide_eq_true (by kernel_rfl)) (by unfold Func.isWrapper;first | (rw[if_pos (by decide +kernel)];kernel_rfl) | (rw[if_neg (by decide +kernel)];exact⟨rfl,rfl⟩))
  (fun os started H enc _ F=>by rw[OpenClaim.pre_eq_preRow];exact lifted os started H enc F)
theorem plain (f : FuncId) (fn : Func) (hf : Tryz.pinned.checked.prog.funcNamed "reckoner/reckonerlaw07.PartsOf" = some f) (hfn : Tryz.pinned.checked.prog.funcs[f]? = some fn) :
  false=Tryz.pinned.checked.prog.looks []/\∀ (j:Nat) t,fn.params[j]?=some t->Tryz.pinned.checked.prog.wantsStandIn t=false:=by
 obtain rfl : f = 5 := Option.some.inj ((show Tryz.prog.funcNamed "reckoner/reckonerlaw07.PartsOf" = some 5 by kernel_rfl).symm.trans hf) |>.symm
 obtain rfl:fn=Tryz.f5:=(Option.some.inj (Tryz.func5.symm.trans hfn)).symm;refine⟨by kernel_rfl,fun j t ht=>?_⟩;rw[Tryz.params5] at ht
 obtain rfl:t=23:=by simpa using Array.mem_of_getElem? ht
 exact(show Tryz.prog.wantsStandIn 23=false by kernel_rfl)
theorem card:Rows.PartsOfCardSaid :=
 Claim7.holds_tied_plain_at .later [] _ _ _ _ said (fun _ h=>by cases h) (by kernel_rfl) (fun _ h=>by cases h) partsOf_row_tie rfl ⟨rfl,rfl⟩ (by kernel_rfl) rfl plain (by kernel_rfl)
#print axioms card
end PartsOfC
end Limb
end Go.Proofs.YtgkkbkoiaccmfaaGreatDoor
