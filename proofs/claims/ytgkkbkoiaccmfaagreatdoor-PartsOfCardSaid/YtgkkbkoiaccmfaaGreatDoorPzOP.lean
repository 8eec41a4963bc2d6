/-
  The walk of reckonerref04.Add.
-/
import Derived.Test.YtgkkbkoiaccmfaaGreatDoorPzOO
set_option linter.unusedSimpArgs false
set_option linter.unusedVariables false
set_option maxHeartbeats 16000000
set_option maxRecDepth 100000
namespace Go.Proofs.YtgkkbkoiaccmfaaGreatDoor
namespace Pol
open Go.RowKit Go.Sort Limb
structure PC (P:List Tm) (n k e:Nat):Prop where
 c:Canon P
 b:PB P n k e
theorem PC.up {P:List Tm} {n k e n' k' e':Nat} (h:PC P n k e) (hn:n<=n') (hk:k<=k') (he:e<=e'):PC P n' k' e':=⟨h.c,h.b.up hn hk he⟩
theorem PC.lq {P:List Tm} {n k e m:Nat} (h:PC P n k e) (hm:k<=m):∀ t∈P,LQ t.2 m:=fun t ht=>(h.b.lq t ht).up hm
theorem PC.nil (n k e:Nat):PC [] n k e:=⟨Canon.nil,PB.nil n k e⟩
theorem PC.add {P Q:List Tm} {n1 k1 e1 n2 k2 e2:Nat} (h1:PC P n1 k1 e1) (h2:PC Q n2 k2 e2) (k e:Nat) (a:k1<=k) (b:k2<=k) (c:e1<=e) (d:e2<=e):PC (addP P Q) (n1+n2) (2*k+1) e :=
 ⟨jdm _ _,PB.add h1.c h2.c (h1.b.up zj a c) (h2.b.up zj b d)⟩
theorem PC.mul {P Q:List Tm} {n1 k1 e1 n2 k2 e2:Nat} (h1:PC P n1 k1 e1) (h2:PC Q n2 k2 e2):PC (Zv P Q) (n1*n2) (n1*(k1+k2+1)) (e1+e2):=⟨XA _ _,PB.mulC h2.c h1.b h2.b⟩
theorem PC.of {q:Rat} {k:Nat} (h:LQ q k):PC (nf [(Mo.one,q)]) 1 (k+1) 0:=by
 have hb:PB [(Mo.one,q)] 1 k 0:=⟨zj,fun t ht=>by rw[List.mem_singleton.1 ht];exact h,fun t ht=>by rw[List.mem_singleton.1 ht];exact⟨zj,zj,zj,zj⟩⟩;have h1:=hb.nf;rw[Nat.one_mul] at h1;exact⟨Qe _,h1⟩
theorem PC.at {P:List Tm} {n k e kl:Nat} {l:Nat->Rat} (h:PC P n k e) (hl:∀ i,LQ (l i) kl):LQ (ev P (atM l)) ((n+1)*(k+4*(e*kl+1)+1)):=by
 have hq:∀ t∈P,LQ (t.2*atM l t.1) (k+4*(e*kl+1)):=fun t ht=>by
  have h1:=pw_lq (h.b.lq t ht) hl (fun i=>at_one t.1 i e (h.b.ex t ht)) 4;rwa [pw_four] at h1
 rcases ev_nq hq with h0 | ⟨j,hj0,hj,hn⟩
 ·rw[h0];exact lq_zero (Nat.mul_pos (Nat.succ_pos _) (Nat.succ_pos _))
 ·exact hn.lq (Nat.mul_le_mul_right _ (zm hj (Nat.le_succ_of_le h.b.len)))
theorem KP.n_le {w:World} {x:PV} {P:List Tm} {n k e:Nat} (h:KP w x P) (b:PC P n k e):x.n<=n:=by rw[h.len];exact b.b.len
theorem YE.gr {w:World} {x:PV} {L:List TO} (h:YE w x L):RT w x.a (L.map Prod.fst)/\(L.map Prod.fst).length=x.n:=⟨h.1,by rw[List.length_map];exact h.2.1⟩
theorem great1P {w:World} {g m:Nat} {x:PV} {L:List TO} (hb:Bxs w g 23 [x.v]) (h1:YE w x L) (hm:m<=1000) :
  Calls Tryz.prog 10 #[.int .i64 m,.slice (some ⟨g,0,none⟩) 1 1] w (BR w (XI m (L.map Prod.fst))) :=
 (jee g m 1 [(x,L.map Prod.fst)] w rfl (fun i e h=>by match i,h with | 0,h=>exact(Option.some.inj h)▸hb.ce 0) (fun e he=>by rw[List.mem_singleton.1 he];exact h1.gr) (by simp) hm).mono
  fun e w' ⟨b,g1,g2,g3⟩=>⟨b,g1,fun hb=>g2 hb _ (List.mem_singleton.2 rfl),g3⟩
theorem YE.rawP {w:World} {x:PV} {L:List TO} {m:Nat} (h:YE w x L) (hg:XI m (L.map Prod.fst)):UK w x L:=h.raw fun e he=>by
 obtain⟨h1,h2⟩:=hg.2 e.1 (List.mem_map_of_mem he);exact⟨zm h1 (by decide),zm h2 (by decide)⟩
theorem jhq {w:World} {x:PV} {L:List TO} {m E:Nat} (h:YE w x L) (hg:XI m (L.map Prod.fst)) (hw:∀ e∈L,e.1.m.le E):(∃ P,KP w x P/\PC P m 4 E)\/BP w x:=by
 have hr:=h.rawP hg;by_cases hk:okP L
 ·obtain⟨P,hv,hc⟩:=hk;refine Or.inl ⟨P,hr.kp hv hc,hc,?_⟩;obtain⟨K,hK,hP⟩:=Yn hv
  have hin:∀ e∈K,(e.1,some e.2)∈L:=fun e he=>by rw[hK];exact List.mem_map_of_mem he
  refine⟨?_,fun t ht=>?_,fun t ht=>?_⟩
  ·have h1:=hg.1;rw[List.length_map,hK,List.length_map] at h1;rw[<- hP,List.length_map];exact h1
  ·rw[<- hP] at ht;obtain⟨e,he,rfl⟩:=List.mem_map.1 ht;have h1:KF w e.1.c e.2:=hr.2.2.2.1 _ (hin e he);obtain⟨h2,h3⟩:=hg.2 e.1 (List.mem_map_of_mem (f:=Prod.fst) (hin e he));exact h1.lq ⟨h2,zm h3 (by decide)⟩
  ·rw[<- hP] at ht;obtain⟨e,he,rfl⟩:=List.mem_map.1 ht;exact hw _ (hin e he)
 ·exact Or.inr ⟨L,hr,hk⟩
theorem BP.n_le {w:World} {x:PV} {L:List TO} {m:Nat} (h:YE w x L) (hg:XI m (L.map Prod.fst)):x.n<=m:=by
 have h1:=hg.1;rw[List.length_map,h.2.1] at h1;exact h1
def R2 (w:World) (p q:Int) (e:Ending) (w':World):Prop:=∃ x y:NV,e=.returned (.agg #[.bool x.s,.slice x.a x.n x.c,.bool y.s,.slice y.a y.n y.c])/\DN w' w.heap.size x p/\DN w' w.heap.size y q/\Below w.heap.size w w'
theorem Z6 {w:World} {lo b:Nat} {x:NV} {z:Int} {t:TypeId} {u0 u1 u2 u3:Value} (h:DN w lo x z) (hb:Bxs w b t [u0,u1,u2,u3]) (ht:160≠t) (v0 v1 v2 v3:Value):DN (Yb w b v0 v1 v2 v3) lo x z :=
 (((h.Jt hb ht 0 v0).Jt (hb.put 0 v0) ht 1 v1).Jt ((hb.put 0 v0).put 1 v1) ht 2 v2).Jt (((hb.put 0 v0).put 1 v1).put 2 v2) ht 3 v3
theorem jeg (x0 x1 y0 y1:NV) (a0 a1 b0 b1:Int) (w:World) (nx0:KN w x0 a0) (nx1:KN w x1 a1) (ny0:KN w y0 b0) (ny1:KN w y1 b1) (la0:Ja a0.natAbs<=400000) (la1:Ja a1.natAbs<=400000) (lb0:Ja b0.natAbs<=400000) (lb1:Ja b1.natAbs<=400000) (hb1:b1≠0) :
  Calls Tryz.prog 134 #[.agg #[.bool x0.s,.slice x0.a x0.n x0.c,.bool x1.s,.slice x1.a x1.n x1.c],.agg #[.bool y0.s,.slice y0.a y0.n y0.c,.bool y1.s,.slice y1.a y1.n y1.c]] w (R2 w ((Int.gcd a0 b0:Nat):Int) (a1*(b1/((Int.gcd a1 b1:Nat):Int)))):=by
 have KG:=qh (Below.refl w.heap.size w);have NX0:=qh nx0;have NX1:=qh nx1;have NY0:=qh ny0;have NY1:=qh ny1;have LZa0:=qh (show Ja a0.natAbs<=400000 from la0);have LZa1:=qh (show Ja a1.natAbs<=400000 from la1);have LZb0:=qh (show Ja b0.natAbs<=400000 from lb0);have LZb1:=qh (show Ja b1.natAbs<=400000 from lb1);obtain⟨zg,hzg⟩:∃ z:Int,z=((Int.gcd a1 b1:Nat):Int):=⟨_,rfl⟩;have Hzg:=qh hzg;have LZzg:=qh (show Ja zg.natAbs<=400000 by rw[hzg];exact jav la1 lb1);have HNZ:=qh (show zg≠0 by rw[hzg];exact fun e=>hb1 (Int.gcd_eq_zero_iff.1 (Int.natCast_eq_zero.1 e)).2);clear hzg;clear nx0 nx1 ny0 ny1 la0 la1 lb0 lb1 hb1;obtain⟨z5,hz5⟩:∃ z:Int,z=b1/zg:=⟨_,rfl⟩;have Hz5:=qh hz5;have LZz5:=qh (show Ja z5.natAbs<=400001 by rw[hz5];exact jcv (zm LZb1.o (by decide):Ja b1.natAbs<=400000) (by decide) (HNZ.o));clear hz5;obtain⟨z6,hz6⟩:∃ z:Int,z=b1%zg:=⟨_,rfl⟩;have Hz6:=qh hz6;have LZz6:=qh (show Ja z6.natAbs<=400000 by rw[hz6];exact len_emod (x:=b1) LZzg.o (HNZ.o));clear hz6;obtain⟨z12,hz12⟩:∃ z:Int,z=((Int.gcd a0 b0:Nat):Int):=⟨_,rfl⟩;have Hz12:=qh hz12;have LZz12:=qh (show Ja z12.natAbs<=400000 by rw[hz12];exact jav (zm LZa0.o (by decide):Ja a0.natAbs<=400000) (zm LZb0.o (by decide):Ja b0.natAbs<=400000));clear hz12;obtain⟨z13,hz13⟩:∃ z:Int,z=a1*z5:=⟨_,rfl⟩;have Hz13:=qh hz13;have LZz13:=qh (show Ja z13.natAbs<=800001 by rw[hz13];exact lenZ_mul LZa1.o LZz5.o);clear hz13;go_enter Tryz.func134,Tryz.ntmps134
 go_upto_region 1 with (fail)
 obtain⟨v4,hV⟩:∃ V,V=((w.alloc (.cells #[.bool x0.s,.slice x0.a x0.n x0.c,.bool x1.s,.slice x1.a x1.n x1.c] 109)).alloc (.cells #[.bool y0.s,.slice y0.a y0.n y0.c,.bool y1.s,.slice y1.a y1.n y1.c] 109)).alloc (.cells #[.bool false,.slice none 0 0,.bool false,.slice none 0 0] 109):=⟨_,rfl⟩
 have hbV:Below w.heap.size w v4:=by rw[hV];exact(((zk.alloc zj _).alloc (by go_size) _).alloc (by go_size) _)
 have BX1:=qh (show Bxs v4 (w.heap.size) 109 [.bool x0.s,.slice x0.a x0.n x0.c,.bool x1.s,.slice x1.a x1.n x1.c] by have h:=((Bxs.new (w) 109 [.bool x0.s,.slice x0.a x0.n x0.c,.bool x1.s,.slice x1.a x1.n x1.c]).alloc (.cells #[.bool y0.s,.slice y0.a y0.n y0.c,.bool y1.s,.slice y1.a y1.n y1.c] 109)).alloc (.cells #[.bool false,.slice none 0 0,.bool false,.slice none 0 0] 109);rw[hV];exact h);have BX2:=qh (show Bxs v4 (w.heap.size+1) 109 [.bool y0.s,.slice y0.a y0.n y0.c,.bool y1.s,.slice y1.a y1.n y1.c] by have h:=(Bxs.new (w.alloc (.cells #[.bool x0.s,.slice x0.a x0.n x0.c,.bool x1.s,.slice x1.a x1.n x1.c] 109)) 109 [.bool y0.s,.slice y0.a y0.n y0.c,.bool y1.s,.slice y1.a y1.n y1.c]).alloc (.cells #[.bool false,.slice none 0 0,.bool false,.slice none 0 0] 109);simp only[World.size_alloc] at h;rw[hV];exact h);have BX3:=qh (show Bxs v4 (w.heap.size+1+1) 109 [.bool false,.slice none 0 0,.bool false,.slice none 0 0] by have h:=Bxs.new ((w.alloc (.cells #[.bool x0.s,.slice x0.a x0.n x0.c,.bool x1.s,.slice x1.a x1.n x1.c] 109)).alloc (.cells #[.bool y0.s,.slice y0.a y0.n y0.c,.bool y1.s,.slice y1.a y1.n y1.c] 109)) 109 [.bool false,.slice none 0 0,.bool false,.slice none 0 0];simp only[World.size_alloc] at h;rw[hV];exact h);rw[show((w.alloc (.cells #[.bool x0.s,.slice x0.a x0.n x0.c,.bool x1.s,.slice x1.a x1.n x1.c] 109)).alloc (.cells #[.bool y0.s,.slice y0.a y0.n y0.c,.bool y1.s,.slice y1.a y1.n y1.c] 109)).alloc (.cells #[.bool false,.slice none 0 0,.bool false,.slice none 0 0] 109)=v4 from hV.symm]
 have KG:=qk KG hbV;clear hV hbV
 go_upto_region 1 with (fail)
 refine FS.Jc 16 [(14,12),(15,13)] (FS.JM [(6,FS.Sp.made (fun x:NV=>x.v) (fun x w'=>DN w' v4.heap.size x zg) NV.blk),(7,FS.Sp.made (NV2.v 0) (fun x w'=>DN w' v4.heap.size x.p z5/\DN w' v4.heap.size x.q z6) NV2.blk),(12,FS.Sp.box 26 2 v4.heap.size),(13,FS.Sp.box 26 2 v4.heap.size)])
  (fun w'=>Below v4.heap.size v4 w') (by kernel_rfl) (by kernel_rfl) (by kernel_rfl)
  (FS.Jd (FS.Sp.Jg _ (fun _ _ _ h _ hk=>h.kept hk) (FS.JN (by kernel_rfl))) (FS.Jd (FS.Sp.Jg _ (fun _ _ _ h _ hk=>⟨h.1.kept fun b hb=>hk b (Or.inl hb),h.2.kept fun b hb=>hk b (Or.inr hb)⟩) (FS.JN (by kernel_rfl))) (FS.Jd (FS.Sp.QU _ _ _ _) (FS.Jd (FS.Sp.QU _ _ _ _) (FS.Jk))))) (fun _ _ h hb=>h.trans (hb.mono h.size)) (zk.drew) ?_
 simp only[zu,zi,ze,zx,zy,zv,zw]
 iterate 6
  refine FS.Jb rfl rfl rfl ?_ (fun w' hw'=>?_) ?_;rotate_left
  ·have hb':=hw'.world;have hs0:=(BX2.o.bl hb').ce 0;have hs1:=(BX2.o.bl hb').ce 1;have hs2:=(BX2.o.bl hb').ce 2;have hs3:=(BX2.o.bl hb').ce 3;have hsf:=(BX2.o.bl hb').fz;have hsl:=(BX2.o.bl hb').lt;have hs0:=(BX1.o.bl hb').ce 0;have hs1:=(BX1.o.bl hb').ce 1;have hs2:=(BX1.o.bl hb').ce 2;have hs3:=(BX1.o.bl hb').ce 3;have hsf:=(BX1.o.bl hb').fz;have hsl:=(BX1.o.bl hb').lt;clear hw';go_simp
   try rfl
  conv=>arg 10;simp only[Act.put,zq0,zq1,zq2]
 refine FS.Jf rfl rfl rfl (fun w' hw'=>?_) ?_
 ·have hb':=hw'.world;refine FS.Jn (FS.PM (fun x:NV=>x.v) (fun x w'=>DN w' v4.heap.size x zg) NV.blk w'.heap.size) ?_ (fun _ _ h=>h.post @NV.inj);go_simp;have CT:=gcdN (NX1.o.below (KG.o.trans (hb'.mono KG.o.size))).any ((NX1.o.below (KG.o.trans (hb'.mono KG.o.size))).len LZa1.o (by decide)) (NY1.o.below (KG.o.trans (hb'.mono KG.o.size))).any ((NY1.o.below (KG.o.trans (hb'.mono KG.o.size))).len LZb1.o (by decide));rw[show((Int.gcd a1 b1:Nat):Int)=zg from Hzg.o.symm] at CT;refine CT.mono ?_;rintro e w'' ⟨za,rfl,ho,hb⟩;exact⟨_,rfl,⟨za,rfl,ho.mono hb'.size,ho.QK⟩,hb⟩
 rintro _ ⟨y6,rfl⟩
 conv=>arg 10;simp only[Act.put,zq0,zq1,zq2]
 refine FS.Jf rfl rfl rfl (fun w' hw'=>?_) ?_
 ·have hb':=hw'.world;refine FS.Jn (FS.PM (NV2.v 0) (fun x w'=>DN w' v4.heap.size x.p z5/\DN w' v4.heap.size x.q z6) NV2.blk w'.heap.size) ?_ (fun _ _ h=>h.post (NV2.inj 0));go_simp;have f6:=FS.JU (val:=fun x:NV=>x.v) (Φ:=fun x w'=>DN w' v4.heap.size x zg) @NV.inj (hw'.fact 6 (by kernel_rfl));have CT:=divN (NY1.o.below (KG.o.trans (hb'.mono KG.o.size))) ((NY1.o.below (KG.o.trans (hb'.mono KG.o.size))).len LZb1.o (by decide)) f6.k (f6.k.len LZzg.o (by decide)) (HNZ.o);rw[show b1/zg=z5 from Hz5.o.symm] at CT;rw[show b1%zg=z6 from Hz6.o.symm] at CT;refine CT.mono ?_;rintro e w'' ⟨za,zb,rfl,ho,ho',hb⟩;exact⟨_,rfl,⟨⟨za,zb⟩,rfl,⟨ho.mono hb'.size,ho'.mono hb'.size⟩,fun b hb=>hb.elim (ho.QK b) (ho'.QK b)⟩,hb⟩
 rintro _ ⟨y7,rfl⟩
 conv=>arg 10;simp only[Act.put,zq0,zq1,zq2]
 iterate 4
  refine FS.Jb rfl rfl rfl ?_ (fun w' hw'=>?_) ?_;rotate_left
  ·have hb':=hw'.world;skip;clear hw';go_simp
   try rfl
  conv=>arg 10;simp only[Act.put,zq0,zq1,zq2]
 refine FS.Jf rfl rfl rfl (fun w' hw'=>?_) ?_
 ·have hb':=hw'.world;refine FS.Jn (FS.PB 26 2 v4.heap.size w'.heap.size) ?_ (fun _ _ h=>h.post);go_simp;exact⟨FS.PB.new _ rfl hb'.size,zk.alloc zj _⟩
 rintro _ ⟨y12,rfl⟩
 conv=>arg 10;simp only[Act.put,zq0,zq1,zq2]
 refine FS.Jf rfl rfl rfl (fun w' hw'=>?_) ?_
 ·have hb':=hw'.world;refine FS.Jn (FS.PB 26 2 v4.heap.size w'.heap.size) ?_ (fun _ _ h=>h.post);go_simp;exact⟨FS.PB.new _ rfl hb'.size,zk.alloc zj _⟩
 rintro _ ⟨y13,rfl⟩
 conv=>arg 10;simp only[Act.put,zq0,zq1,zq2]
 refine FS.Xe rfl rfl 12 rfl rfl rfl rfl (fun _=>Iff.rfl) (fun w' hw'=>?_) ?_
 ·have hb':=hw'.world;have hX:=FS.ZN (hw'.fact 12 (by kernel_rfl));obtain⟨c0,c1,hB⟩:=shp2 hX.1;have m0:=hB.ce 0;have m1:=hB.ce 1;have mf:=hB.fz;have ml:=hB.lt;refine FS.Xf ?_ (jbc hb' hX.2 hB (.bool y7.p.s) (.slice y7.p.a y7.p.n y7.p.c));clear hw';go_simp
  try rfl
 conv=>arg 10;simp only[Act.put,zq0,zq1,zq2]
 refine FS.Xe rfl rfl 13 rfl rfl rfl rfl (fun _=>Iff.rfl) (fun w' hw'=>?_) ?_
 ·have hb':=hw'.world;have hX:=FS.ZN (hw'.fact 13 (by kernel_rfl));obtain⟨c0,c1,hB⟩:=shp2 hX.1;have m0:=hB.ce 0;have m1:=hB.ce 1;have mf:=hB.fz;have ml:=hB.lt;refine FS.Xf ?_ (jbc hb' hX.2 hB (.bool y7.q.s) (.slice y7.q.a y7.q.n y7.q.c));clear hw';go_simp
  try rfl
 conv=>arg 10;simp only[Act.put,zq0,zq1,zq2]
 refine FS.Jo (fun w9 hb hF=>?_);have BX7:=qh (show Bxs w9 y12 26 [.bool y7.p.s,.slice y7.p.a y7.p.n y7.p.c] from QQ (hF.all 14));have N10:=qh (show DN w9 v4.heap.size y7.p z5 from(FS.JU (val:=NV2.v 0) (Φ:=fun x w'=>DN w' v4.heap.size x.p z5/\DN w' v4.heap.size x.q z6) (NV2.inj 0) (hF.all 7)).1);have BX8:=qh (show Bxs w9 y13 26 [.bool y7.q.s,.slice y7.q.a y7.q.n y7.q.c] from QQ (hF.all 15));have N11:=qh (show DN w9 v4.heap.size y7.q z6 from(FS.JU (val:=NV2.v 0) (Φ:=fun x w'=>DN w' v4.heap.size x.p z5/\DN w' v4.heap.size x.q z6) (NV2.inj 0) (hF.all 7)).2);clear hF;have BX1:=qh (BX1.o.bl hb);have BX2:=qh (BX2.o.bl hb);have BX3:=qh (BX3.o.bl hb);have KG:=qk KG hb;clear hb;clear BX8;clear N11;have HSZ:=qh (show w.heap.size<=w9.heap.size from KG.o.size)
 go_upto_region 2 with (fail)
 refine FS.Jc 10 [] (FS.JM [(4,FS.Sp.made (fun x:NV=>x.v) (fun x w'=>DN w' w9.heap.size x z12) NV.blk),(8,FS.Sp.made (fun x:NV=>x.v) (fun x w'=>DN w' w9.heap.size x z13) NV.blk)])
  (fun w'=>Below w9.heap.size w9 w') (by kernel_rfl) (by kernel_rfl) (by kernel_rfl)
  (FS.Jd (FS.Sp.Jg _ (fun _ _ _ h _ hk=>h.kept hk) (FS.JN (by kernel_rfl))) (FS.Jd (FS.Sp.Jg _ (fun _ _ _ h _ hk=>h.kept hk) (FS.JN (by kernel_rfl))) (FS.Jk))) (fun _ _ h hb=>h.trans (hb.mono h.size)) (zk.drew) ?_
 simp only[zu,zi,ze,zx,zy,zv,zw]
 iterate 4
  refine FS.Jb rfl rfl rfl ?_ (fun w' hw'=>?_) ?_;rotate_left
  ·have hb':=hw'.world;have hs0:=(BX1.o.bl hb').ce 0;have hs1:=(BX1.o.bl hb').ce 1;have hs2:=(BX1.o.bl hb').ce 2;have hs3:=(BX1.o.bl hb').ce 3;have hsf:=(BX1.o.bl hb').fz;have hsl:=(BX1.o.bl hb').lt;have hs0:=(BX2.o.bl hb').ce 0;have hs1:=(BX2.o.bl hb').ce 1;have hs2:=(BX2.o.bl hb').ce 2;have hs3:=(BX2.o.bl hb').ce 3;have hsf:=(BX2.o.bl hb').fz;have hsl:=(BX2.o.bl hb').lt;clear hw';go_simp
   try rfl
  conv=>arg 10;simp only[Act.put,zq0,zq1,zq2]
 refine FS.Jf rfl rfl rfl (fun w' hw'=>?_) ?_
 ·have hb':=hw'.world;refine FS.Jn (FS.PM (fun x:NV=>x.v) (fun x w'=>DN w' w9.heap.size x z12) NV.blk w'.heap.size) ?_ (fun _ _ h=>h.post @NV.inj);go_simp;have CT:=gcdN (NX0.o.below (KG.o.trans (hb'.mono KG.o.size))).any ((NX0.o.below (KG.o.trans (hb'.mono KG.o.size))).len LZa0.o (by decide)) (NY0.o.below (KG.o.trans (hb'.mono KG.o.size))).any ((NY0.o.below (KG.o.trans (hb'.mono KG.o.size))).len LZb0.o (by decide));rw[show((Int.gcd a0 b0:Nat):Int)=z12 from Hz12.o.symm] at CT;refine CT.mono ?_;rintro e w'' ⟨za,rfl,ho,hb⟩;exact⟨_,rfl,⟨za,rfl,ho.mono hb'.size,ho.QK⟩,hb⟩
 rintro _ ⟨y4,rfl⟩
 conv=>arg 10;simp only[Act.put,zq0,zq1,zq2]
 iterate 3
  refine FS.Jb rfl rfl rfl ?_ (fun w' hw'=>?_) ?_;rotate_left
  ·have hb':=hw'.world;have hs0:=(BX1.o.bl hb').ce 0;have hs1:=(BX1.o.bl hb').ce 1;have hs2:=(BX1.o.bl hb').ce 2;have hs3:=(BX1.o.bl hb').ce 3;have hsf:=(BX1.o.bl hb').fz;have hsl:=(BX1.o.bl hb').lt;have hs0:=(BX7.o.bl hb').ce 0;have hs1:=(BX7.o.bl hb').ce 1;have hsf:=(BX7.o.bl hb').fz;have hsl:=(BX7.o.bl hb').lt;clear hw';go_simp
   try rfl
  conv=>arg 10;simp only[Act.put,zq0,zq1,zq2]
 refine FS.Jf rfl rfl rfl (fun w' hw'=>?_) ?_
 ·have hb':=hw'.world;refine FS.Jn (FS.PM (fun x:NV=>x.v) (fun x w'=>DN w' w9.heap.size x z13) NV.blk w'.heap.size) ?_ (fun _ _ h=>h.post @NV.inj);go_simp;have CT:=mulN (NX1.o.below (KG.o.trans (hb'.mono KG.o.size))).any ((NX1.o.below (KG.o.trans (hb'.mono KG.o.size))).len LZa1.o (by decide)) (N10.o.below hb').k.any ((N10.o.below hb').k.len LZz5.o (by decide));rw[show a1*z5=z13 from Hz13.o.symm] at CT;refine CT.mono ?_;rintro e w'' ⟨za,rfl,ho,hb⟩;exact⟨_,rfl,⟨za,rfl,ho.mono hb'.size,ho.QK⟩,hb⟩
 rintro _ ⟨y8,rfl⟩
 conv=>arg 10;simp only[Act.put,zq0,zq1,zq2]
 refine FS.Jb rfl rfl rfl ?_ (fun w' hw'=>?_) ?_;rotate_left
 ·have hb':=hw'.world;skip;clear hw';go_simp
  try rfl
 conv=>arg 10;simp only[Act.put,zq0,zq1,zq2]
 refine FS.Jo (fun w14 hb hF=>?_);have N15:=qh (show DN w14 w9.heap.size y4 z12 from(FS.JU (val:=fun x:NV=>x.v) (Φ:=fun x w'=>DN w' w9.heap.size x z12) @NV.inj (hF.all 4)));have N16:=qh (show DN w14 w9.heap.size y8 z13 from(FS.JU (val:=fun x:NV=>x.v) (Φ:=fun x w'=>DN w' w9.heap.size x z13) @NV.inj (hF.all 8)));clear hF;clear N10;clear BX1;clear BX2;have BX3:=qh (BX3.o.bl hb);clear BX7;have KG:=qk KG hb;clear hb;have ca0:=BX3.o.ce 0;have ca1:=BX3.o.ce 1;have ca2:=BX3.o.ce 2;have ca3:=BX3.o.ce 3;have caf:=BX3.o.fz;have cal:=BX3.o.lt;have HA:=qh (show w.heap.size<=w.heap.size+1+1 by omega);have R0:=qh (Z6 (N15.o.mono HSZ.o) BX3.o (by decide) (.bool y4.s) (.slice y4.a y4.n y4.c) (.bool y8.s) (.slice y8.a y8.n y8.c));have R1:=qh (Z6 (N16.o.mono HSZ.o) BX3.o (by decide) (.bool y4.s) (.slice y4.a y4.n y4.c) (.bool y8.s) (.slice y8.a y8.n y8.c));have HB:=qh (Qg KG.o HA.o (.bool y4.s) (.slice y4.a y4.n y4.c) (.bool y8.s) (.slice y8.a y8.n y8.c));go_wp2_with fail
 refine bodyPost_ret (Je rfl _ _ _ _ _ _ _ rfl (QN BX3.o ..) Tryz.underlying109 rfl (by kernel_rfl)) rfl ⟨y4,y8,rfl,?_,?_,HB.o⟩
 ·rw[show((Int.gcd a0 b0:Nat):Int)=z12 from Hz12.o.symm];exact R0.o
 ·rw[show a1*(b1/((Int.gcd a1 b1:Nat):Int))=z13 from by rw[Hz13.o,show z5=b1/zg from Hz5.o,Hzg.o]];exact R1.o
theorem both_k (x:PV) (P:List Tm) (k lo:Nat) (z0 z1:NV) (w:World) (hx:KP w x P) (hp:∀ t∈P,LQ t.2 k) (hn:P.length<=1000000) (hk:P.length*k+1<=400000) (hk4:k<=400000) (h0:DN w lo z0 0) (h1:DN w lo z1 1) (hlo:lo<=w.heap.size) :
  Calls Tryz.prog 132 #[x.v,.agg #[.bool z0.s,.slice z0.a z0.n z0.c,.bool z1.s,.slice z1.a z1.n z1.c],.func (.func 134) #[] #[]] w fun e w'=>∃ a b:NV,e=.returned (.agg #[.bool a.s,.slice a.a a.n a.c,.bool b.s,.slice b.a b.n b.c])/\DN w' lo a (gT P 0:Int)/\DN w' lo b (lL P 1:Int)/\Below w.heap.size w w':=by
 obtain⟨V0,hV⟩:∃ V,V=(w.alloc (.cells #[.bool z0.s,.slice z0.a z0.n z0.c,.bool z1.s,.slice z1.a z1.n z1.c] 109)).alloc (.cells #[.bool false,.slice none 0 0,.bool false,.slice none 0 0] 109):=⟨_,rfl⟩
 have hbV:Below w.heap.size w V0:=by rw[hV];exact(zk.alloc zj _).alloc (by go_size) _
 have B4:=qh (show Bxs V0 w.heap.size 109 [.bool z0.s,.slice z0.a z0.n z0.c,.bool z1.s,.slice z1.a z1.n z1.c] by rw[hV];exact(Bxs.new w 109 [.bool z0.s,.slice z0.a z0.n z0.c,.bool z1.s,.slice z1.a z1.n z1.c]).alloc _)
 have B6:=qh (show Bxs V0 (w.heap.size+1) 109 [.bool false,.slice none 0 0,.bool false,.slice none 0 0] by
  have h:=Bxs.new (w.alloc (.cells #[.bool z0.s,.slice z0.a z0.n z0.c,.bool z1.s,.slice z1.a z1.n z1.c] 109)) 109 [.bool false,.slice none 0 0,.bool false,.slice none 0 0];rw[World.size_alloc] at h
  rw[hV];exact h)
 have KG:=qh hbV;have HV:=qh hV;have D0:=qh (h0.below hbV);have D1:=qh (h1.below hbV);have HLO:=qh hlo;have HX:=qh hx;have HP:=qh hp;have HN:=qh hn;have HK:=qh hk;have HK4:=qh hk4;obtain⟨A4,hA4⟩:∃ A,A=w.heap.size:=⟨_,rfl⟩;obtain⟨A6,hA6⟩:∃ A,A=w.heap.size+1:=⟨_,rfl⟩;have HA4:=qh (show w.heap.size<=A4 by omega);have HA6:=qh (show w.heap.size<=A6 by omega);have HN46:=qh (show A4≠A6 by omega);have HN64:=qh (show A6≠A4 by omega);have HE4:=qh hA4;have HE6:=qh hA6;rw[<- hA4] at B4;rw[<- hA6] at B6;obtain⟨L1,g1,g2,g3,g4⟩:=hx.ex;have R1:=qh g1;have F1:=qh g3;have T1:=qh g4;obtain⟨xa,xn,xc⟩:=x;have N1:=qh (show L1.length=xn from g2);have HXL:=qh (show xn=P.length from hx.len)
 have hcf:∀ (args:Array Value) (w:World),(callFunc 134 args).run Tryz.prog w=.ok (.enter 134 args) w:=fun _ _=>by kernel_rfl
 change Calls Tryz.prog 132 #[.slice xa xn xc,.agg #[.bool z0.s,.slice z0.a z0.n z0.c,.bool z1.s,.slice z1.a z1.n z1.c],.func (.func 134) #[] #[]] w _;clear hV hbV hx hp hn hk hk4 h0 h1 hlo hA4 hA6 g1 g2 g3 g4;go_enter Tryz.func132,Tryz.ntmps132
 go_upto_region 1 with (fail)
 rw[show(w.alloc (.cells #[.bool z0.s,.slice z0.a z0.n z0.c,.bool z1.s,.slice z1.a z1.n z1.c] 109)).alloc (.cells #[.bool false,.slice none 0 0,.bool false,.slice none 0 0] 109)=V0 from HV.o.symm,show w.heap.size+1=A6 from HE6.o.symm,show w.heap.size=A4 from HE4.o.symm];go_wp2_with fail
 go_loopw [11] (fun i wr=>∃ (j:Nat) (a b:NV),j<=xn/\i=.int .i64 j/\DN wr lo a (gT (P.take j) 0:Int)/\DN wr lo b (lL (P.take j) 1:Int)/\Bxs wr A4 109 [.bool a.s,.slice a.a a.n a.c,.bool b.s,.slice b.a b.n b.c]/\Bxs wr A6 109 [.bool false,.slice none 0 0,.bool false,.slice none 0 0]/\Below w.heap.size w wr) (fun i _=>xn-(intOf i).toNat)
 case atStart =>
  exact⟨0,z0,z1,Nat.zero_le _,rfl,D0.o,D1.o,B4.o,B6.o,KG.o⟩
 case round =>
  obtain⟨j,a,b,hj,rfl,ha,hb,hb4,hb6,hb0⟩:=hrel;have HJ:=qh hj;have NA:=qh ha;have NB:=qh hb;have B4:=qh hb4;have B6:=qh hb6;have KG:=qh hb0;clear hj ha hb hb4 hb6 hb0;by_cases hjn:j<xn
  ·have HJN:=qh hjn
   have hjl:j<L1.length:=by rw[N1.o];exact hjn
   obtain⟨pb,po,rfl,hpb,hcs⟩:=(R1.o.below KG.o).off (i:=j) (by rw[List.length_map];exact hjl);obtain⟨e,he⟩:∃ e,L1[j]?=some e:=⟨_,List.getElem?_eq_getElem hjl⟩;obtain⟨t,q⟩:=e;obtain⟨c0,c1,c2,c3,c4,c5,c6,c7⟩:=RT.eight hcs (i:=j) (t:=t) (by rw[List.getElem?_map,he];rfl);have hmem:=List.mem_of_getElem? he;have HPJ:=qh (show P[j]?=some (t.m,q) by rw[<- T1.o,List.getElem?_map,he];rfl);have NT:=qh (show KF w t.c q from F1.o _ hmem);have hpm:=List.mem_of_getElem? HPJ.o;have HTQ:=qh (show LQ q k from HP.o _ hpm)
   have LA:=qh (show Ja ((gT (P.take j) 0:Nat):Int).natAbs<=400000 from zm (by
    rw[Int.natAbs_natCast]
    exact jbf (by rw[Jr];omega) fun u hu=>⟨HX.o.canon.non u (List.mem_of_mem_take hu),HP.o u (List.mem_of_mem_take hu)⟩) HK4.o)
   have LB:=qh (show Ja ((lL (P.take j) 1:Nat):Int).natAbs<=400000 from by
    rw[Int.natAbs_natCast]
    have h1:=VT (P:=P.take j) (l:=1) (k:=k) fun u hu=>HP.o u (List.mem_of_mem_take hu)
    rw[ZB] at h1;have h2:(P.take j).length*k<=P.length*k:=Nat.mul_le_mul_right _ (by rw[List.length_take];omega);have:=HK.o
    omega)
   clear hcs he hpb hjl hmem hpm
   go_upto_region 4 with (fail)
   obtain⟨V,hV⟩:∃ V,V=wr.alloc (.cells #[.bool t.c.t.s,.slice t.c.t.a t.c.t.n t.c.t.c,.bool t.c.l.s,.slice t.c.l.a t.c.l.n t.c.l.c,.int .u16 t.m.x,.int .u16 t.m.y,.int .u16 t.m.z,.int .u16 t.m.t] 71):=⟨_,rfl⟩
   have hbV:Below wr.heap.size wr V:=by rw[hV];exact zk.alloc zj _
   have B8:=qh (show Bxs V wr.heap.size 71 [.bool t.c.t.s,.slice t.c.t.a t.c.t.n t.c.t.c,.bool t.c.l.s,.slice t.c.l.a t.c.l.n t.c.l.c,.int .u16 t.m.x,.int .u16 t.m.y,.int .u16 t.m.z,.int .u16 t.m.t] by rw[hV];exact Bxs.new wr 71 [.bool t.c.t.s,.slice t.c.t.a t.c.t.n t.c.t.c,.bool t.c.l.s,.slice t.c.l.a t.c.l.n t.c.l.c,.int .u16 t.m.x,.int .u16 t.m.y,.int .u16 t.m.z,.int .u16 t.m.t]);obtain⟨A8,hA8⟩:∃ A,A=wr.heap.size:=⟨_,rfl⟩;rw[<- hV,<- hA8];rw[<- hA8] at B8;have B4:=qh (B4.o.bl hbV);have B6:=qh (B6.o.bl hbV);have NA:=qh (NA.o.below hbV);have NB:=qh (NB.o.below hbV);have KG:=qk KG hbV;have NT:=qh (NT.o.below KG.o);have ek:IntKind.i64.wrap ((j:Int)+1)=(j:Int)+1:=IntWalk.i64_in _ (by have:=HJN.o;have:=HXL.o;have:=HN.o;omega);have CT:=qh (jeg a b t.c.t t.c.l _ _ _ _ V NA.o.k NB.o.k NT.o.t NT.o.l LA.o LB.o (zm HTQ.o.t HK4.o) (zm HTQ.o.l HK4.o) (by have:=q.den_pos;omega));clear hV hbV hA8 c0 c1 c2 c3 c4 c5 c6 c7 hjn;have d40:=B4.o.ce 0;have d41:=B4.o.ce 1;have d42:=B4.o.ce 2;have d43:=B4.o.ce 3;have d4f:=B4.o.fz;have d4l:=B4.o.lt;have d80:=B8.o.ce 0;have d81:=B8.o.ce 1;have d82:=B8.o.ce 2;have d83:=B8.o.ce 3;have d84:=B8.o.ce 4;have d85:=B8.o.ce 5;have d86:=B8.o.ce 6;have d87:=B8.o.ce 7;have d8f:=B8.o.fz;have d8l:=B8.o.lt;go_wp2_with fail
   with_reducible refine CT.o.mono ?_
   rintro e w2 ⟨a',b',rfl,ha,hb,hbw⟩;have B4:=qh (B4.o.bl hbw);have B6:=qh (B6.o.bl hbw);have hsz:lo<=V.heap.size:=zm HLO.o KG.o.size
   have NA:=qh (show DN w2 lo a' (gT (P.take (j+1)) 0:Int) by
    rw[jfr P j _ HPJ.o]
    exact ha.mono hsz)
   have NB:=qh (show DN w2 lo b' (lL (P.take (j+1)) 1:Int) by
    rw[jfs P j _ HPJ.o]
    have e:((lL (P.take j) 1*(q.den/Nat.gcd (lL (P.take j) 1) q.den):Nat):Int)=(lL (P.take j) 1:Int)*((q.den:Int)/((Int.gcd (lL (P.take j) 1:Int) (q.den:Int):Nat):Int)):=by
     rw[Int.natCast_mul,Int.natCast_ediv];rfl
    exact e▸hb.mono hsz)
   have KG:=qk KG hbw;clear ha hb hbw hsz CT d40 d41 d42 d43 d4f d4l d80 d81 d82 d83 d84 d85 d86 d87 d8f d8l;have d40:=B4.o.ce 0;have d41:=B4.o.ce 1;have d42:=B4.o.ce 2;have d43:=B4.o.ce 3;have d4f:=B4.o.fz;have d4l:=B4.o.lt;go_wp2_with fail
   go_roundw
   case rel =>
    exact⟨j+1,a',b',by have:=HJN.o;omega,rfl,Z6 NA.o B4.o (by decide) ..,Z6 NB.o B4.o (by decide) ..,QN B4.o ..,jef B6.o HN64.o ..,Qg KG.o HA4.o ..⟩
   case measure=>simp[intOf];have:=HJN.o;omega
  ·have hge:¬((j:Int)<(xn:Int)):=by omega
   have HJE:=qh (show j=xn by have:=HJ.o;omega);clear hjn;have htk:P.take j=P:=List.take_of_length_le (by rw[HJE.o,HXL.o];exact zj);have NA:=qh (show DN wr lo a (gT P 0:Int) by have h:=NA.o;rwa [htk] at h);have NB:=qh (show DN wr lo b (lL P 1:Int) by have h:=NB.o;rwa [htk] at h);clear htk;have d40:=B4.o.ce 0;have d41:=B4.o.ce 1;have d42:=B4.o.ce 2;have d43:=B4.o.ce 3;have d4f:=B4.o.fz;have d4l:=B4.o.lt;have d60:=B6.o.ce 0;have d61:=B6.o.ce 1;have d62:=B6.o.ce 2;have d63:=B6.o.ce 3;have d6f:=B6.o.fz;have d6l:=B6.o.lt;go_wp2_with fail
   exact bodyPost_ret (Je rfl _ _ _ _ _ _ _ rfl (QN B6.o (.bool a.s) (.slice a.a a.n a.c) (.bool b.s) (.slice b.a b.n b.c)) Tryz.underlying109 rfl (by kernel_rfl)) rfl ⟨a,b,rfl,Z6 NA.o B6.o (by decide) ..,Z6 NB.o B6.o (by decide) ..,Qg KG.o HA6.o ..⟩
abbrev OC (w:World) (lo:Nat) (v:Value) (Zs:List PV):Prop:=w.ownsRow lo 23 1 v Zs.length (Zs.map PV.v)
theorem MR.only {w w':World} {lo g d i b:Nat} {A:List Tm} {bs:Nat->Option Nat} {Ms:Nat->List TE} (h:MR w lo g d i A bs Ms):∀ k b,k<=d->bs k=some b->MK w lo b (Ms k):=fun k b hk hb=>(h.got k b hk hb).1
theorem OC.own {w:World} {lo:Nat} {v:Value} {Zs:List PV} (h:OC w lo v Zs) {k:Nat} (hk:some k=v.ownBlock):lo<=k/\∃ cur,w.heap[k]?=some (.cells cur 23 (0,0)):=by
 rcases h.2 with ⟨hv,_⟩ | ⟨g,cap,cur,hv,hlo,hg,_⟩
 ·rw[hv] at hk;cases hk
 ·rw[hv] at hk;have hk:some k=some g:=hk
  cases hk
  exact⟨hlo,cur,hg⟩
def l4 (a b c d:Rat):Nat->Rat:=fun i=>if i=0 then a else if i=1 then b else if i=2 then c else d
structure CP (w:World) (a:Option Addr) (n c:Nat) (P:List Tm) (i:Nat):Prop where
 len:(n:Int)=degP P i+1
 get:∀ k,k<n->∃ (b:Nat) (z:PV),a=some ⟨b,0,none⟩/\w.cell? ⟨b,k,none⟩=some z.v/\KP w z (VZ P i k)
 cap:n<=c
theorem CP.of {w:World} {lo:Nat} {v:Value} {Zs:List PV} {P:List Tm} {i:Nat} (h:OC w lo v Zs) (hl:(Zs.length:Int)=degP P i+1) (hd:∀ k z,Zs[k]?=some z->DP w lo z (VZ P i k)):∃ a c,v=.slice a Zs.length c/\CP w a Zs.length c P i:=by
 rcases h.2 with ⟨hv,h0⟩ | ⟨g,cap,cur,hv,hlo,hg,hnc,_,hcs,htake⟩
 ·refine⟨none,0,by rw[hv,h0],hl,fun k hk=>by omega,by omega⟩
 ·refine⟨some ⟨g,0,none⟩,cap,hv,hl,fun k hk=>?_,hnc⟩;obtain⟨z,hz⟩:∃ z,Zs[k]?=some z:=⟨_,List.getElem?_eq_getElem hk⟩;refine⟨g,z,rfl,?_,(hd k z hz).k⟩;rw[cell_of_row _ _ _ _ _ _ hg]
  have h1:(Zs.map PV.v)[k]?=some z.v:=by rw[List.getElem?_map,hz];rfl
  rw[<- htake,List.getElem?_take,if_pos (by omega),Array.getElem?_toList] at h1;exact h1
structure SA (w:World) (x:PV) (P:List Tm) (ok:Bool) (n k e:Nat):Prop where
 h:(ok=true/\KP w x P)\/(ok=false/\BP w x/\P=[])
 b:PC P n k e
 le:x.n<=1000000
theorem SA.below {w w':World} {x:PV} {P:List Tm} {ok:Bool} {n k e:Nat} (h:SA w x P ok n k e) (hb:Below w.heap.size w w'):SA w' x P ok n k e :=
 ⟨h.h.imp (fun h=>⟨h.1,h.2.below hb⟩) (fun h=>⟨h.1,h.2.1.below hb,h.2.2⟩),h.b,h.le⟩
theorem SA.ap {w:World} {x:PV} {P:List Tm} {ok:Bool} {n k e:Nat} (h:SA w x P ok n k e):AP w x P:=h.h.elim (fun h=>h.2.any) (fun h=>Or.inr h.2)
theorem KP.sa {w:World} {x:PV} {P:List Tm} {n k e:Nat} (h:KP w x P) (b:PC P n k e) (hn:n<=1000000):SA w x P true n k e:=⟨Or.inl ⟨rfl,h⟩,b,zm (h.n_le b) hn⟩
theorem sa_of {w:World} {x:PV} {L:List TO} {m E:Nat} (h:YE w x L) (hg:XI m (L.map Prod.fst)) (hw:∀ e∈L,e.1.m.le E) (hm:m<=1000000):∃ P ok,SA w x P ok m 4 E:=by
 rcases jhq h hg hw with ⟨P,hk,hc⟩ | hb
 ·exact⟨P,true,hk.sa hc hm⟩
 ·exact⟨[],false,Or.inr ⟨rfl,hb,rfl⟩,PC.nil _ _ _,zm (BP.n_le h hg) hm⟩
def LA (w:World) (x0 x1 x2 x3:FV) (l:Nat->Rat) (ok:Bool) (kl:Nat):Prop :=
 (ok=true/\K4 w x0 x1 x2 x3 l/\∀ i,LQ (l i) kl)\/(ok=false/\∃ oks:Nat->Bool,B4 w x0 x1 x2 x3 oks/\∃ i,i<4/\oks i=false)
theorem cmp_sg (q:Rat):Jv q.num 0=sgQ q:=by
 unfold Jv sgQ;split
 ·rfl
 ·split <;> split <;> omega
theorem cont_head {t:Tm} {P:List Tm} (h:P[0]?=some t):JW P=((gT P 0:Int):Rat)/((lL P 1:Int):Rat)*((Jv t.2.num 0:Int):Rat):=by
 match P,h with
 | u :: r,h =>
  obtain rfl:u=t:=by simpa using h
  rw[cmp_sg,Rat.intCast_natCast,Rat.intCast_natCast];rfl
def Zq (x:FV):Prop:=∃ a c b d,x=⟨⟨false,a,0,c⟩,⟨false,b,0,d⟩⟩
theorem Zq.bf {x:FV} (h:Zq x) (w:World):BF w x:=by
 obtain⟨a,c,b,d,rfl⟩:=h;exact bf_of (KN.zero w a c) (KN.zero w b d) (by decide)
theorem Zq.lf {x:FV} (h:Zq x) (k:Nat):LF x k:=by
 obtain⟨a,c,b,d,rfl⟩:=h;exact⟨Nat.zero_le _,Nat.zero_le _⟩
def RZQ (w:World) (c:Int) (e:Ending) (w':World):Prop:=∃ x:FV,e=.returned (.tuple #[x.v,.int .i64 c])/\Zq x/\Below w.heap.size w w'
theorem qdivZ {w:World} {x y:FV} {p q:Rat} (h1:KF w x p) (b1:LF x 900000) (h2:KF w y q) (b2:LF y 900000) (hq:q=0):Calls Tryz.prog 221 #[x.v,y.v] w (RZQ w 6):=by
 have h:=jfk x.t.s x.t.a x.t.n x.t.c _ x.l.s x.l.a x.l.n x.l.c _ y.t.s y.t.a y.t.n y.t.c _ y.l.s y.l.a y.l.n y.l.c _ w h1.t.rd (by omega) h1.t.le h1.l.rd (by omega) h1.l.le h2.t.rd (by omega) h2.t.le h2.l.rd (by omega) h2.l.le h1.okv h2.okv p q h1.Vk h2.Vk;rw[if_pos hq,if_pos hq,show(p/q).num=0 by rw[hq,Rat.div_def,Rat.inv_zero,Rat.mul_zero];rfl] at h
 refine h.mono fun e w' h=>?_
 obtain⟨a1,a2,rfl,_,_,_,hb⟩:=h;refine⟨⟨⟨false,a1,0,0⟩,⟨false,a2,0,0⟩⟩,?_,⟨a1,0,a2,0,rfl⟩,hb⟩;rw[show(0:Int).natAbs=0 from rfl,Jr];rfl
structure T0 (w:World) (b o:Nat) (t:TV):Prop where
 c:w.cell? ⟨b,o,none⟩=some (.bool t.c.t.s)/\w.cell? ⟨b,o+1,none⟩=some (.slice t.c.t.a t.c.t.n t.c.t.c)/\w.cell? ⟨b,o+2,none⟩=some (.bool t.c.l.s)/\w.cell? ⟨b,o+3,none⟩=some (.slice t.c.l.a t.c.l.n t.c.l.c)
theorem T0.below {w w':World} {b o:Nat} {t:TV} (h:T0 w b o t) (hb:Below w.heap.size w w'):T0 w' b o t:=by
 obtain⟨h0,h1,h2,h3⟩:=h.c;exact⟨(hb.cell (p:=⟨b,o,none⟩) (block_lt_of_cell h0)).trans h0,(hb.cell (p:=⟨b,o+1,none⟩) (block_lt_of_cell h1)).trans h1,(hb.cell (p:=⟨b,o+2,none⟩) (block_lt_of_cell h2)).trans h2,(hb.cell (p:=⟨b,o+3,none⟩) (block_lt_of_cell h3)).trans h3⟩
theorem jeh (x:PV) (P:List Tm) (k:Nat) (w:World) (hx:KP w x P) (hp:∀ t∈P,LQ t.2 k) (hn:P.length<=1000000) (hk:P.length*k+1<=400000) (hk4:k<=400000) (hne:P≠[]) :
  Calls Tryz.prog 32 #[x.v] w (RF w (JW P)):=by
 obtain⟨V0,hV⟩:∃ V,V=w.alloc (.cells #[.bool false,.slice none 0 0,.bool false,.slice none 0 0] 28):=⟨_,rfl⟩
 have hbV:Below w.heap.size w V0:=by rw[hV];exact zk.alloc zj _
 have B2:=qh (show Bxs V0 w.heap.size 28 [.bool false,.slice none 0 0,.bool false,.slice none 0 0] by rw[hV];exact Bxs.new w 28 [.bool false,.slice none 0 0,.bool false,.slice none 0 0]);have hxl:=hx.len;have CK:=qh (jaz (hx.below hbV) (fun t ht=>(hp t ht).up (by omega)) (by omega));have HX:=qh hx;have HP:=qh hp;have HN:=qh hn;have HK:=qh hk;have HK4:=qh hk4;have HNE:=qh hne;have KG:=qh hbV;have HV:=qh hV;obtain⟨A2,hA2⟩:∃ A,A=w.heap.size:=⟨_,rfl⟩;have HA2:=qh (show w.heap.size<=A2 by omega);have HE2:=qh hA2;rw[<- hA2] at B2;obtain⟨L1,g1,g2,g3,g4⟩:=hx.ex;obtain⟨xa,xn,xc⟩:=x;have hpos:0<P.length:=List.length_pos_iff.2 hne;have g2:L1.length=xn:=g2
 have hl1:0<L1.length:=by rw[g2];omega
 obtain⟨pb,po,rfl,hpb,hcs⟩:=g1.off (i:=0) (by rw[List.length_map];exact hl1);obtain⟨e,he⟩:∃ e,L1[0]?=some e:=⟨_,List.getElem?_eq_getElem hl1⟩;obtain⟨t,q⟩:=e;obtain⟨c0,c1,c2,c3,_⟩:=RT.eight hcs (i:=0) (t:=t) (by rw[List.getElem?_map,he];rfl);have HT0:=qh (show T0 w pb po t from⟨c0,c1,c2,c3⟩);have hmem:=List.mem_of_getElem? he
 have hP0:P[0]?=some (t.m,q):=by rw[<- g4,List.getElem?_map,he];rfl
 have HP0:=qh hP0;have NT:=qh (show KF w t.c q from g3 _ hmem);have LQq:=qh (show LQ q 400000 from(hp _ (List.mem_of_getElem? hP0)).up hk4)
 have h0:¬((xn:Int)=0):=by change xn=P.length at hxl;omega
 have HXP:=qh (show 0<xn by change xn=P.length at hxl;omega);obtain⟨sg,hsg⟩:∃ s,s=Jv q.num 0:=⟨_,rfl⟩;have HSG:=qh hsg.symm
 have hr:-1<=sg/\sg<=1:=by
  rw[hsg];unfold Jv;split
  ·omega
  ·split <;> omega
 have HR1:=qh (show -9223372036854775808<=sg by omega);have HR2:=qh (show sg<=9223372036854775807 by omega)
 have LG:=qh (show Ja ((gT P 0:Nat):Int).natAbs<=400000 from zm (by
  rw[Int.natAbs_natCast]
  exact jbf (by rw[Jr];omega) fun u hu=>⟨hx.canon.non u hu,hp u hu⟩) hk4)
 have LL:=qh (show Ja ((lL P 1:Nat):Int).natAbs<=400000 from by
  rw[Int.natAbs_natCast];have h1:=VT (P:=P) (l:=1) (k:=k) hp;rw[ZB] at h1
  omega)
 have HNZ:=qh (show((lL P 1:Nat):Int)≠0 by have:=VO P 1 (by decide);omega);change Calls Tryz.prog 32 #[.slice (some ⟨pb,po,none⟩) xn xc] w _;clear hV hbV hx hp hn hk hk4 hne hxl hA2 g1 g2 g3 g4 hpos hl1 hpb hcs he c0 c1 c2 c3 hmem hP0 hsg hr;go_enter Tryz.func32,Tryz.ntmps32
 go_upto_region 1 with (fail)
 rw[show w.alloc (.cells #[.bool false,.slice none 0 0,.bool false,.slice none 0 0] 28)=V0 from HV.o.symm,show w.heap.size=A2 from HE2.o.symm];go_wp2_with fail
 with_reducible refine CK.o.mono ?_
 rintro e w1 ⟨rfl,hb⟩;have B2:=qh (B2.o.bl hb);have KG:=qk KG hb;have O0:=qh (ofN 0 w1 (by decide) (by decide));clear hb CK;go_wp2_with fail
 with_reducible refine O0.o.mono ?_
 rintro e w2 ⟨z0,rfl,hz0,hb⟩;have HZ0:=qh (hz0.mono KG.o.size);have B2:=qh (B2.o.bl hb);have KG:=qk KG hb;have O1:=qh (ofN 1 w2 (by decide) (by decide));clear hb hz0 O0;go_wp2_with fail
 with_reducible refine O1.o.mono ?_
 rintro e w3 ⟨z1,rfl,hz1,hb⟩;have HZ0:=qh (HZ0.o.below hb);have HZ1:=qh (hz1.mono KG.o.size);have B2:=qh (B2.o.bl hb);have KG:=qk KG hb;have BT:=qh (both_k ⟨some ⟨pb,po,none⟩,xn,xc⟩ P k w.heap.size z0 z1 w3 (HX.o.below KG.o) HP.o HN.o HK.o HK4.o HZ0.o HZ1.o KG.o.size);clear hb hz1 O1;go_wp2_with fail
 with_reducible refine BT.o.mono ?_
 rintro e w4 ⟨a,b,rfl,ha,hb',hb⟩;have HA:=qh ha;have HB:=qh hb';have B2:=qh (B2.o.bl hb);have KG:=qk KG hb;clear ha hb' hb BT
 go_upto_region 4 with (fail)
 obtain⟨VA,hV⟩:∃ W,W=w4.alloc (.cells #[.bool a.s,.slice a.a a.n a.c,.bool b.s,.slice b.a b.n b.c] 109):=⟨_,rfl⟩
 have hbV:Below w4.heap.size w4 VA:=by rw[hV];exact zk.alloc zj _
 have B3:=qh (show Bxs VA w4.heap.size 109 [.bool a.s,.slice a.a a.n a.c,.bool b.s,.slice b.a b.n b.c] by rw[hV];exact Bxs.new w4 109 [.bool a.s,.slice a.a a.n a.c,.bool b.s,.slice b.a b.n b.c]);obtain⟨A3,hA3⟩:∃ A,A=w4.heap.size:=⟨_,rfl⟩;rw[<- hV,<- hA3];rw[<- hA3] at B3;have B2:=qh (B2.o.bl hbV);have KG:=qk KG hbV;have HA:=qh (HA.o.below hbV);have HB:=qh (HB.o.below hbV);have MK:=qh (qmake HA.o.k (HA.o.k.len LG.o (by decide)) HB.o.k (HB.o.k.len LL.o (by decide)) HNZ.o);clear hV hbV hA3;have d30:=B3.o.ce 0;have d31:=B3.o.ce 1;have d32:=B3.o.ce 2;have d33:=B3.o.ce 3;have d3f:=B3.o.fz;have d3l:=B3.o.lt;go_wp2_with fail
 with_reducible refine MK.o.mono ?_
 rintro e w5 ⟨c,rfl,hc,hb⟩;have HC:=qh (hc.mono KG.o.size);have HBW:=qh hb;have B2:=qh (B2.o.bl hb);clear hc hb MK d30 d31 d32 d33 d3f d3l
 go_upto_region 5 with (fail)
 obtain⟨V,hU⟩:∃ W,W=w5.alloc (.cells #[.bool c.t.s,.slice c.t.a c.t.n c.t.c,.bool c.l.s,.slice c.l.a c.l.n c.l.c] 28):=⟨_,rfl⟩
 have hbU:Below w5.heap.size w5 V:=by rw[hU];exact zk.alloc zj _
 have B4:=qh (show Bxs V w5.heap.size 28 [.bool c.t.s,.slice c.t.a c.t.n c.t.c,.bool c.l.s,.slice c.l.a c.l.n c.l.c] by rw[hU];exact Bxs.new w5 28 [.bool c.t.s,.slice c.t.a c.t.n c.t.c,.bool c.l.s,.slice c.l.a c.l.n c.l.c]);obtain⟨A4,hA4⟩:∃ A,A=w5.heap.size:=⟨_,rfl⟩;rw[<- hU,<- hA4];rw[<- hA4] at B4;have B2:=qh (B2.o.bl hbU);have HC:=qh (HC.o.below hbU);have KG:=qh ((KG.o.trans (HBW.o.mono KG.o.size)).trans (hbU.mono (KG.o.trans (HBW.o.mono KG.o.size)).size));have HSZ:=qh (show w.heap.size<=V.heap.size from KG.o.size);obtain⟨qc,hqc⟩:∃ v,v=((gT P 0:Int):Rat)/((lL P 1:Int):Rat):=⟨_,rfl⟩;have LQqc:=qh (show LQ qc 400000 by rw[hqc];exact LQ.make HNZ.o LG.o LL.o);have NC:=qh (show DF V w.heap.size c qc by rw[hqc];exact HC.o);have HQC:=qh hqc;clear hU hbU hA4 hqc HC HBW;obtain⟨q101,hq101⟩:∃ z:Rat,z=((sg:Int):Rat):=⟨_,rfl⟩;have Hq101:=qh hq101;have LQq101:=qh (show LQ q101 3 by rw[hq101];exact LQ.int HR1.o HR2.o);clear hq101;obtain⟨q102,hq102⟩:∃ z:Rat,z=qc*q101:=⟨_,rfl⟩;have Hq102:=qh hq102;have LQq102:=qh (show LQ q102 800000 by rw[hq102];exact LQ.mul (LQqc.o.up (by decide:_<=400000)) (LQq101.o.up (by decide:_<=400000)) (by decide));clear hq102
 go_upto_region 5 with (fail)
 refine FS.Jc 8 [] (FS.JM [(5,FS.Sp.know (.int .i64 sg)),(6,FS.Sp.made (fun x:FV=>x.v) (fun x w'=>DF w' V.heap.size x q101) FV.blk),(7,FS.Sp.made (fun x:FV=>x.v) (fun x w'=>DF w' V.heap.size x q102) FV.blk)])
  (fun w'=>Below V.heap.size V w') (by kernel_rfl) (by kernel_rfl) (by kernel_rfl)
  (FS.Jd (FS.Sp.Jl _ _) (FS.Jd (FS.Sp.Jg _ (fun _ _ _ h _ hk=>h.kept hk) (FS.JN (by kernel_rfl))) (FS.Jd (FS.Sp.Jg _ (fun _ _ _ h _ hk=>h.kept hk) (FS.JN (by kernel_rfl))) (FS.Jk)))) (fun _ _ h hb=>h.trans (hb.mono h.size)) (zk.drew) ?_
 simp only[zu,zi,ze,zx,zy,zv,zw]
 iterate 5
  refine FS.Jb rfl rfl rfl ?_ (fun w' hw'=>?_) ?_;rotate_left
  ·have hb':=hw'.world;have hs0:=(B4.o.bl hb').ce 0;have hs1:=(B4.o.bl hb').ce 1;have hs2:=(B4.o.bl hb').ce 2;have hs3:=(B4.o.bl hb').ce 3;have hsf:=(B4.o.bl hb').fz;have hsl:=(B4.o.bl hb').lt;have hn:=HXP.o;have d0:=(HT0.o.below (KG.o.trans (hb'.mono KG.o.size)));obtain⟨e0,e1,e2,e3⟩:=d0.c;clear hw';go_simp
   try rfl
  conv=>arg 10;simp only[Act.put,zq0,zq1,zq2]
 refine FS.Jf rfl rfl rfl (fun w' hw'=>?_) ?_
 ·have hb':=hw'.world;refine FS.Jn (FS.PK (.int .i64 sg)) ?_ (fun _ _ h=>h.post);go_simp;have CT:=jbd ((NT.o.below (KG.o.trans (hb'.mono KG.o.size)))).any (((NT.o.below (KG.o.trans (hb'.mono KG.o.size)))).len LQq.o (by decide:_<=900000));rw[show Jv q.num 0=sg from HSG.o] at CT;refine CT.mono ?_;rintro e w'' ⟨rfl,hb⟩;exact⟨_,rfl,rfl,hb⟩
 rintro _ rfl
 conv=>arg 10;simp only[Act.put,zq0,zq1,zq2]
 refine FS.Jf rfl rfl rfl (fun w' hw'=>?_) ?_
 ·have hb':=hw'.world;refine FS.Jn (FS.PM (fun x:FV=>x.v) (fun x w'=>DF w' V.heap.size x q101) FV.blk w'.heap.size) ?_ (fun _ _ h=>h.post (fun _ _=>FV.inj));go_simp;have CT:=qof sg w' HR1.o HR2.o;rw[show((sg:Int):Rat)=q101 from Hq101.o.symm] at CT;refine CT.mono ?_;rintro e w'' ⟨za,rfl,ho,hb⟩;exact⟨_,rfl,⟨za,rfl,ho.mono hb'.size,ho.QK⟩,hb⟩
 rintro _ ⟨y6,rfl⟩
 conv=>arg 10;simp only[Act.put,zq0,zq1,zq2]
 refine FS.Jf rfl rfl rfl (fun w' hw'=>?_) ?_
 ·have hb':=hw'.world;refine FS.Jn (FS.PM (fun x:FV=>x.v) (fun x w'=>DF w' V.heap.size x q102) FV.blk w'.heap.size) ?_ (fun _ _ h=>h.post (fun _ _=>FV.inj));go_simp;have f6:=FS.JU (val:=(fun x:FV=>x.v)) (Φ:=fun x w'=>DF w' V.heap.size x q101) (fun _ _=>FV.inj) (hw'.fact 6 (by kernel_rfl));have CT:=qmul ((NC.o.below hb')).k.any ((((NC.o.below hb')).k).len LQqc.o (by decide:_<=900000)) (f6).k.any (((f6).k).len LQq101.o (by decide:_<=900000));rw[show qc*q101=q102 from Hq102.o.symm] at CT;refine CT.mono ?_;rintro e w'' ⟨za,rfl,ho,hb⟩;exact⟨_,rfl,⟨za,rfl,ho.mono hb'.size,ho.QK⟩,hb⟩
 rintro _ ⟨y7,rfl⟩
 conv=>arg 10;simp only[Act.put,zq0,zq1,zq2]
 refine FS.Jo (fun w103 hb hF=>?_);have N104:=qh (show DF w103 V.heap.size y7 q102 from(FS.JU (val:=(fun x:FV=>x.v)) (Φ:=fun x w'=>DF w' V.heap.size x q102) (fun _ _=>FV.inj) (hF.all 7)));clear hF;have NC:=qh (NC.o.below hb);have B4:=qh (B4.o.bl hb);have B2:=qh (B2.o.bl hb);have KG:=qk KG hb;clear hb;have HQ:=qh (show q102=JW P by rw[cont_head HP0.o,Hq102.o,Hq101.o,HQC.o];show _=_*((Jv q.num 0:Int):Rat);rw[HSG.o]);have HD:=qh (show DF (Yb w103 A2 (.bool y7.t.s) (.slice y7.t.a y7.t.n y7.t.c) (.bool y7.l.s) (.slice y7.l.a y7.l.n y7.l.c)) w.heap.size y7 (JW P) from by rw[<- HQ.o];exact ja0 (N104.o.mono HSZ.o) B2.o (by decide) ..);have HBB:=qh (show Below w.heap.size w (Yb w103 A2 (.bool y7.t.s) (.slice y7.t.a y7.t.n y7.t.c) (.bool y7.l.s) (.slice y7.l.a y7.l.n y7.l.c)) from Qg KG.o HA2.o ..);have d20:=B2.o.ce 0;have d21:=B2.o.ce 1;have d22:=B2.o.ce 2;have d23:=B2.o.ce 3;have d2f:=B2.o.fz;have d2l:=B2.o.lt;go_wp2_with fail
 exact bodyPost_ret (Je rfl _ _ _ _ _ _ _ rfl (QN B2.o ..) Tryz.underlying28 rfl (by kernel_rfl)) rfl ⟨y7,rfl,HD.o,HBB.o⟩
theorem jei (x:PV) (w:World) (hk:KP w x []):Calls Tryz.prog 32 #[x.v] w (RF w 0):=by
 obtain⟨V0,hV⟩:∃ V,V=w.alloc (.cells #[.bool false,.slice none 0 0,.bool false,.slice none 0 0] 28):=⟨_,rfl⟩
 have hbV:Below w.heap.size w V0:=by rw[hV];exact zk.alloc zj _
 have B2:=qh (show Bxs V0 w.heap.size 28 [.bool false,.slice none 0 0,.bool false,.slice none 0 0] by rw[hV];exact Bxs.new w 28 [.bool false,.slice none 0 0,.bool false,.slice none 0 0]);have hx0:x.n=0:=hk.len;have CK:=qh (jaz (hk.below hbV) (fun t ht=>(by cases ht)) (by omega));have KG:=qh hbV;have HV:=qh hV;obtain⟨A2,hA2⟩:∃ A,A=w.heap.size:=⟨_,rfl⟩;have HA2:=qh (show w.heap.size<=A2 by omega);have HE2:=qh hA2;rw[<- hA2] at B2;obtain⟨xa,xn,xc⟩:=x;obtain rfl:xn=0:=hx0;change Calls Tryz.prog 32 #[.slice xa 0 xc] w _;clear hV hbV hk hA2;go_enter Tryz.func32,Tryz.ntmps32
 go_upto_region 1 with (fail)
 rw[show w.alloc (.cells #[.bool false,.slice none 0 0,.bool false,.slice none 0 0] 28)=V0 from HV.o.symm,show w.heap.size=A2 from HE2.o.symm];go_wp2_with fail
 with_reducible refine CK.o.mono ?_
 rintro e w1 ⟨rfl,hb⟩;have B2:=qh (B2.o.bl hb);have KG:=qk KG hb;have OF:=qh (qof 0 w1 (by decide) (by decide));clear hb CK;go_wp2_with fail
 with_reducible refine OF.o.mono ?_
 rintro e w2 ⟨y,rfl,hy,hb⟩;have HY:=qh (show DF w2 w.heap.size y 0 from hy.mono KG.o.size);have B2:=qh (B2.o.bl hb);have KG:=qk KG hb;have HD:=qh (ja0 HY.o B2.o (by decide) (.bool y.t.s) (.slice y.t.a y.t.n y.t.c) (.bool y.l.s) (.slice y.l.a y.l.n y.l.c));have HBB:=qh (Qg KG.o HA2.o (.bool y.t.s) (.slice y.t.a y.t.n y.t.c) (.bool y.l.s) (.slice y.l.a y.l.n y.l.c));clear hy hb OF;have d20:=B2.o.ce 0;have d21:=B2.o.ce 1;have d22:=B2.o.ce 2;have d23:=B2.o.ce 3;have d2f:=B2.o.fz;have d2l:=B2.o.lt;go_wp2_with fail
 exact bodyPost_ret (Je rfl _ _ _ _ _ _ _ rfl (QN B2.o ..) Tryz.underlying28 rfl (by kernel_rfl)) rfl ⟨y,rfl,HD.o,HBB.o⟩
theorem jej (x:PV) (w:World) (hk:BP w x) (hxn:x.n<=1000000000):Calls Tryz.prog 32 #[x.v] w (RF w 0):=by
 obtain⟨V0,hV⟩:∃ V,V=w.alloc (.cells #[.bool false,.slice none 0 0,.bool false,.slice none 0 0] 28):=⟨_,rfl⟩
 have hbV:Below w.heap.size w V0:=by rw[hV];exact zk.alloc zj _
 have B2:=qh (show Bxs V0 w.heap.size 28 [.bool false,.slice none 0 0,.bool false,.slice none 0 0] by rw[hV];exact Bxs.new w 28 [.bool false,.slice none 0 0,.bool false,.slice none 0 0]);have CK:=qh (jfv (hk.below hbV) hxn);have KG:=qh hbV;have HV:=qh hV;obtain⟨A2,hA2⟩:∃ A,A=w.heap.size:=⟨_,rfl⟩;have HA2:=qh (show w.heap.size<=A2 by omega);have HE2:=qh hA2;rw[<- hA2] at B2;obtain⟨xa,xn,xc⟩:=x;clear hxn;change Calls Tryz.prog 32 #[.slice xa xn xc] w _;clear hV hbV hk hA2;go_enter Tryz.func32,Tryz.ntmps32
 go_upto_region 1 with (fail)
 rw[show w.alloc (.cells #[.bool false,.slice none 0 0,.bool false,.slice none 0 0] 28)=V0 from HV.o.symm,show w.heap.size=A2 from HE2.o.symm];go_wp2_with fail
 with_reducible refine CK.o.mono ?_
 rintro e w1 ⟨rfl,hb⟩;have B2:=qh (B2.o.bl hb);have KG:=qk KG hb;have OF:=qh (qof 0 w1 (by decide) (by decide));clear hb CK;go_wp2_with fail
 with_reducible refine OF.o.mono ?_
 rintro e w2 ⟨y,rfl,hy,hb⟩;have HY:=qh (show DF w2 w.heap.size y 0 from hy.mono KG.o.size);have B2:=qh (B2.o.bl hb);have KG:=qk KG hb;have HD:=qh (ja0 HY.o B2.o (by decide) (.bool y.t.s) (.slice y.t.a y.t.n y.t.c) (.bool y.l.s) (.slice y.l.a y.l.n y.l.c));have HBB:=qh (Qg KG.o HA2.o (.bool y.t.s) (.slice y.t.a y.t.n y.t.c) (.bool y.l.s) (.slice y.l.a y.l.n y.l.c));clear hy hb OF;have d20:=B2.o.ce 0;have d21:=B2.o.ce 1;have d22:=B2.o.ce 2;have d23:=B2.o.ce 3;have d2f:=B2.o.fz;have d2l:=B2.o.lt;go_wp2_with fail
 exact bodyPost_ret (Je rfl _ _ _ _ _ _ _ rfl (QN B2.o ..) Tryz.underlying28 rfl (by kernel_rfl)) rfl ⟨y,rfl,HD.o,HBB.o⟩
theorem YH {x:PV} {P:List Tm} {k:Nat} {w:World} (hx:AP w x P) (hxn:x.n<=1000000) (hp:∀ t∈P,LQ t.2 k) (hk:P.length*k+1<=400000) (hk4:k<=400000):Calls Tryz.prog 32 #[x.v] w (RF w (JW P)):=by
 rcases hx with hx | ⟨hx,rfl⟩
 ·by_cases hne:P=[]
  ·subst hne;exact jei x w hx
  ·exact jeh x P k w hx hp (by have:=hx.len;omega) hk hk4 hne
 ·exact jej x w hx (by omega)
def ZqW (_:World) (x:FV):Prop:=Zq x
theorem ZqW.z {w:World} {x:FV} (h:ZqW w x):Zq x:=h
theorem by_k (x:PV) (P:List Tm) (c:FV) (r:Rat) (k n k2:Nat) (w:World) (hx:AP w x P) (hb:PB P n k 65535) (hxn:x.n<=1000000) (hc:KF w c r) (lr:LQ r 400000) (h0:r≠0) (hr:LQ (1/r) k2) (hk:k<=900000) (hkk:n*(k+k2+1)<=900000) :
  Calls Tryz.prog 140 #[x.v,c.v] w fun e w'=>∃ y:PV,e=.returned y.v/\DP w' w.heap.size y (Qp (1/r) P)/\Below w.heap.size w w':=by
 obtain⟨V,hV⟩:∃ V,V=w.alloc (.cells #[.bool c.t.s,.slice c.t.a c.t.n c.t.c,.bool c.l.s,.slice c.l.a c.l.n c.l.c] 28):=⟨_,rfl⟩
 have hbV:Below w.heap.size w V:=by rw[hV];exact zk.alloc zj _
 have B3:=qh (show Bxs V w.heap.size 28 [.bool c.t.s,.slice c.t.a c.t.n c.t.c,.bool c.l.s,.slice c.l.a c.l.n c.l.c] by rw[hV];exact Bxs.new w 28 [.bool c.t.s,.slice c.t.a c.t.n c.t.c,.bool c.l.s,.slice c.l.a c.l.n c.l.c]);have HX:=qh hx;have HPB:=qh hb;have HXN:=qh hxn;have HK:=qh hk;have HKK:=qh hkk;have NC:=qh (hc.below hbV);have LQr:=qh lr;have HR0:=qh h0;clear hc lr h0;have HR:=qh hr;clear hr;have KG:=qh hbV;have HV:=qh hV;obtain⟨xa,xn,xc⟩:=x;clear hV hbV hx hb hxn hk hkk;change Calls Tryz.prog 140 #[.slice xa xn xc,.agg #[.bool c.t.s,.slice c.t.a c.t.n c.t.c,.bool c.l.s,.slice c.l.a c.l.n c.l.c]] w _;go_enter Tryz.func140,Tryz.ntmps140
 go_upto_region 1 with (fail)
 rw[show w.alloc (.cells #[.bool c.t.s,.slice c.t.a c.t.n c.t.c,.bool c.l.s,.slice c.l.a c.l.n c.l.c] 28)=V from HV.o.symm];obtain⟨q101,hq101⟩:∃ z:Rat,z=((1:Int):Rat):=⟨_,rfl⟩;have Hq101:=qh hq101;have LQq101:=qh (show LQ q101 3 by rw[hq101];exact LQ.int (by decide) (by decide));clear hq101;obtain⟨q102,hq102⟩:∃ z:Rat,z=q101/r:=⟨_,rfl⟩;have Hq102:=qh hq102;have LQq102:=qh (show LQ q102 800000 by rw[hq102];exact LQ.div (HR0.o) (LQq101.o.up (by decide:_<=400000)) (LQr.o.up (by decide:_<=400000)) (by decide));clear hq102
 go_upto_region 1 with (fail)
 refine FS.Jc 8 [(7,6)] (FS.JM [(0,FS.Sp.made (fun x:FV=>x.v) (fun x w'=>DF w' V.heap.size x q101) FV.blk),(2,FS.Sp.made (fun x:FV=>.tuple #[x.v,.int .i64 0]) (fun x w'=>DF w' V.heap.size x q102) FV.blk),(6,FS.Sp.box 28 4 V.heap.size)])
  (fun w'=>Below V.heap.size V w') (by kernel_rfl) (by kernel_rfl) (by kernel_rfl)
  (FS.Jd (FS.Sp.Jg _ (fun _ _ _ h _ hk=>h.kept hk) (FS.JN (by kernel_rfl))) (FS.Jd (FS.Sp.Jg _ (fun _ _ _ h _ hk=>h.kept hk) (FS.JN (by kernel_rfl))) (FS.Jd (FS.Sp.QU _ _ _ _) (FS.Jk)))) (fun _ _ h hb=>h.trans (hb.mono h.size)) (zk.drew) ?_
 simp only[zu,zi,ze,zx,zy,zv,zw];refine FS.Jf rfl rfl rfl (fun w' hw'=>?_) ?_
 ·have hb':=hw'.world;refine FS.Jn (FS.PM (fun x:FV=>x.v) (fun x w'=>DF w' V.heap.size x q101) FV.blk w'.heap.size) ?_ (fun _ _ h=>h.post (fun _ _=>FV.inj));go_simp;have CT:=qof 1 w' (by decide) (by decide);rw[show((1:Int):Rat)=q101 from Hq101.o.symm] at CT;refine CT.mono ?_;rintro e w'' ⟨za,rfl,ho,hb⟩;exact⟨_,rfl,⟨za,rfl,ho.mono hb'.size,ho.QK⟩,hb⟩
 rintro _ ⟨y0,rfl⟩
 conv=>arg 10;simp only[Act.put,zq0,zq1,zq2]
 refine FS.Jb rfl rfl rfl ?_ (fun w' hw'=>?_) ?_;rotate_left
 ·have hb':=hw'.world;have hs0:=(B3.o.bl hb').ce 0;have hs1:=(B3.o.bl hb').ce 1;have hs2:=(B3.o.bl hb').ce 2;have hs3:=(B3.o.bl hb').ce 3;have hsf:=(B3.o.bl hb').fz;have hsl:=(B3.o.bl hb').lt;clear hw';go_simp
  try rfl
 conv=>arg 10;simp only[Act.put,zq0,zq1,zq2]
 refine FS.Jf rfl rfl rfl (fun w' hw'=>?_) ?_
 ·have hb':=hw'.world;refine FS.Jn (FS.PM (fun x:FV=>.tuple #[x.v,.int .i64 0]) (fun x w'=>DF w' V.heap.size x q102) FV.blk w'.heap.size) ?_ (fun _ _ h=>h.post (FV.injE 0));go_simp;have f0:=FS.JU (val:=(fun x:FV=>x.v)) (Φ:=fun x w'=>DF w' V.heap.size x q101) (fun _ _=>FV.inj) (hw'.fact 0 (by kernel_rfl));have CT:=qdiv (f0).k (((f0).k).len LQq101.o (by decide:_<=900000)) (NC.o.below hb') (((NC.o.below hb')).len LQr.o (by decide:_<=900000)) (HR0.o);rw[show q101/r=q102 from Hq102.o.symm] at CT;refine CT.mono ?_;rintro e w'' ⟨za,rfl,ho,hb⟩;exact⟨_,rfl,⟨za,rfl,ho.mono hb'.size,ho.QK⟩,hb⟩
 rintro _ ⟨y2,rfl⟩
 conv=>arg 10;simp only[Act.put,zq0,zq1,zq2]
 iterate 3
  refine FS.Jb rfl rfl rfl ?_ (fun w' hw'=>?_) ?_;rotate_left
  ·have hb':=hw'.world;skip;clear hw';go_simp
   try rfl
  conv=>arg 10;simp only[Act.put,zq0,zq1,zq2]
 refine FS.Jf rfl rfl rfl (fun w' hw'=>?_) ?_
 ·have hb':=hw'.world;refine FS.Jn (FS.PB 28 4 V.heap.size w'.heap.size) ?_ (fun _ _ h=>h.post);go_simp;exact⟨FS.PB.new _ rfl hb'.size,zk.alloc zj _⟩
 rintro _ ⟨y6,rfl⟩
 conv=>arg 10;simp only[Act.put,zq0,zq1,zq2]
 refine FS.Xe rfl rfl 6 rfl rfl rfl rfl (fun _=>Iff.rfl) (fun w' hw'=>?_) ?_
 ·have hb':=hw'.world;have hX:=FS.ZN (hw'.fact 6 (by kernel_rfl));obtain⟨c0,c1,c2,c3,hB⟩:=shp4 hX.1;have m0:=hB.ce 0;have m1:=hB.ce 1;have m2:=hB.ce 2;have m3:=hB.ce 3;have mf:=hB.fz;have ml:=hB.lt;refine FS.Xf ?_ (jes hb' hX.2 hB (.bool y2.t.s) (.slice y2.t.a y2.t.n y2.t.c) (.bool y2.l.s) (.slice y2.l.a y2.l.n y2.l.c));clear hw';go_simp
  try rfl
 conv=>arg 10;simp only[Act.put,zq0,zq1,zq2]
 refine FS.Jo (fun w104 hb hF=>?_);have BX103:=qh (show Bxs w104 y6 28 [.bool y2.t.s,.slice y2.t.a y2.t.n y2.t.c,.bool y2.l.s,.slice y2.l.a y2.l.n y2.l.c] from QQ (hF.all 7));have N105:=qh (show DF w104 V.heap.size y2 q102 from(FS.JU (val:=(fun x:FV=>.tuple #[x.v,.int .i64 0])) (Φ:=fun x w'=>DF w' V.heap.size x q102) (FV.injE 0) (hF.all 2)));clear hF;have NC:=qh (NC.o.below hb);have B3:=qh (B3.o.bl hb);have KG:=qk KG hb;clear hb;have HYR:=qh (show(1:Rat)/r=q102 from by rw[Hq102.o,show q101=((1:Int):Rat) from Hq101.o];rfl);have SC:=qh (UU ⟨xa,xn,xc⟩ P y2 (1/r) k n k2 w104 (HX.o.below KG.o) HPB.o HXN.o (by rw[HYR.o];exact N105.o.k.any) (N105.o.k.len LQq102.o (by decide)) HR.o HK.o HKK.o);have d50:=BX103.o.ce 0;have d51:=BX103.o.ce 1;have d52:=BX103.o.ce 2;have d53:=BX103.o.ce 3;have d5f:=BX103.o.fz;have d5l:=BX103.o.lt;go_wp2_with fail
 with_reducible refine SC.o.mono ?_
 rintro e w9 ⟨y,rfl,hy,hb⟩;have HY:=qh (hy.mono KG.o.size);have KG:=qk KG hb;clear hy hb SC;go_wp2_with fail
 go_ret;exact⟨y,rfl,HY.o,KG.o⟩
theorem by_z (x:PV) (P:List Tm) (c:FV) (r:Rat) (k n:Nat) (w:World) (hx:AP w x P) (hb:PB P n k 65535) (hxn:x.n<=1000000) (hc:KF w c r) (lr:LQ r 400000) (h0:r=0) (hk:k<=900000) (hkk:n*(k+1+1)<=900000) :
  Calls Tryz.prog 140 #[x.v,c.v] w fun e w'=>∃ y:PV,e=.returned y.v/\DP w' w.heap.size y (Qp (0) P)/\Below w.heap.size w w':=by
 obtain⟨V,hV⟩:∃ V,V=w.alloc (.cells #[.bool c.t.s,.slice c.t.a c.t.n c.t.c,.bool c.l.s,.slice c.l.a c.l.n c.l.c] 28):=⟨_,rfl⟩
 have hbV:Below w.heap.size w V:=by rw[hV];exact zk.alloc zj _
 have B3:=qh (show Bxs V w.heap.size 28 [.bool c.t.s,.slice c.t.a c.t.n c.t.c,.bool c.l.s,.slice c.l.a c.l.n c.l.c] by rw[hV];exact Bxs.new w 28 [.bool c.t.s,.slice c.t.a c.t.n c.t.c,.bool c.l.s,.slice c.l.a c.l.n c.l.c]);have HX:=qh hx;have HPB:=qh hb;have HXN:=qh hxn;have HK:=qh hk;have HKK:=qh hkk;have NC:=qh (hc.below hbV);have LQr:=qh lr;have HR0:=qh h0;clear hc lr h0;have KG:=qh hbV;have HV:=qh hV;obtain⟨xa,xn,xc⟩:=x;clear hV hbV hx hb hxn hk hkk;change Calls Tryz.prog 140 #[.slice xa xn xc,.agg #[.bool c.t.s,.slice c.t.a c.t.n c.t.c,.bool c.l.s,.slice c.l.a c.l.n c.l.c]] w _;go_enter Tryz.func140,Tryz.ntmps140
 go_upto_region 1 with (fail)
 rw[show w.alloc (.cells #[.bool c.t.s,.slice c.t.a c.t.n c.t.c,.bool c.l.s,.slice c.l.a c.l.n c.l.c] 28)=V from HV.o.symm];obtain⟨q101,hq101⟩:∃ z:Rat,z=((1:Int):Rat):=⟨_,rfl⟩;have Hq101:=qh hq101;have LQq101:=qh (show LQ q101 3 by rw[hq101];exact LQ.int (by decide) (by decide));clear hq101
 go_upto_region 1 with (fail)
 refine FS.Jc 8 [(7,6)] (FS.JM [(0,FS.Sp.made (fun x:FV=>x.v) (fun x w'=>DF w' V.heap.size x q101) FV.blk),(2,FS.Sp.made (fun x:FV=>.tuple #[x.v,.int .i64 6]) (fun x w'=>ZqW w' x) (fun _ _=>False)),(6,FS.Sp.box 28 4 V.heap.size)])
  (fun w'=>Below V.heap.size V w') (by kernel_rfl) (by kernel_rfl) (by kernel_rfl)
  (FS.Jd (FS.Sp.Jg _ (fun _ _ _ h _ hk=>h.kept hk) (FS.JN (by kernel_rfl))) (FS.Jd (FS.Sp.Jg _ (fun _ _ _ h _ _=>h) (FS.JN (by kernel_rfl))) (FS.Jd (FS.Sp.QU _ _ _ _) (FS.Jk)))) (fun _ _ h hb=>h.trans (hb.mono h.size)) (zk.drew) ?_
 simp only[zu,zi,ze,zx,zy,zv,zw];refine FS.Jf rfl rfl rfl (fun w' hw'=>?_) ?_
 ·have hb':=hw'.world;refine FS.Jn (FS.PM (fun x:FV=>x.v) (fun x w'=>DF w' V.heap.size x q101) FV.blk w'.heap.size) ?_ (fun _ _ h=>h.post (fun _ _=>FV.inj));go_simp;have CT:=qof 1 w' (by decide) (by decide);rw[show((1:Int):Rat)=q101 from Hq101.o.symm] at CT;refine CT.mono ?_;rintro e w'' ⟨za,rfl,ho,hb⟩;exact⟨_,rfl,⟨za,rfl,ho.mono hb'.size,ho.QK⟩,hb⟩
 rintro _ ⟨y0,rfl⟩
 conv=>arg 10;simp only[Act.put,zq0,zq1,zq2]
 refine FS.Jb rfl rfl rfl ?_ (fun w' hw'=>?_) ?_;rotate_left
 ·have hb':=hw'.world;have hs0:=(B3.o.bl hb').ce 0;have hs1:=(B3.o.bl hb').ce 1;have hs2:=(B3.o.bl hb').ce 2;have hs3:=(B3.o.bl hb').ce 3;have hsf:=(B3.o.bl hb').fz;have hsl:=(B3.o.bl hb').lt;clear hw';go_simp
  try rfl
 conv=>arg 10;simp only[Act.put,zq0,zq1,zq2]
 refine FS.Jf rfl rfl rfl (fun w' hw'=>?_) ?_
 ·have hb':=hw'.world;refine FS.Jn (FS.PM (fun x:FV=>.tuple #[x.v,.int .i64 6]) (fun x w'=>ZqW w' x) (fun _ _=>False) w'.heap.size) ?_ (fun _ _ h=>h.post (FV.injE 6));go_simp;have f0:=FS.JU (val:=(fun x:FV=>x.v)) (Φ:=fun x w'=>DF w' V.heap.size x q101) (fun _ _=>FV.inj) (hw'.fact 0 (by kernel_rfl));have CT:=qdivZ (f0).k (((f0).k).len LQq101.o (by decide:_<=900000)) (NC.o.below hb') (((NC.o.below hb')).len LQr.o (by decide:_<=900000)) HR0.o;refine CT.mono ?_;rintro e w'' ⟨za,rfl,ho,hb⟩;exact⟨_,rfl,⟨za,rfl,(show ZqW w'' za from ho),fun _ h=>False.elim h⟩,hb⟩
 rintro _ ⟨y2,rfl⟩
 conv=>arg 10;simp only[Act.put,zq0,zq1,zq2]
 iterate 3
  refine FS.Jb rfl rfl rfl ?_ (fun w' hw'=>?_) ?_;rotate_left
  ·have hb':=hw'.world;skip;clear hw';go_simp
   try rfl
  conv=>arg 10;simp only[Act.put,zq0,zq1,zq2]
 refine FS.Jf rfl rfl rfl (fun w' hw'=>?_) ?_
 ·have hb':=hw'.world;refine FS.Jn (FS.PB 28 4 V.heap.size w'.heap.size) ?_ (fun _ _ h=>h.post);go_simp;exact⟨FS.PB.new _ rfl hb'.size,zk.alloc zj _⟩
 rintro _ ⟨y6,rfl⟩
 conv=>arg 10;simp only[Act.put,zq0,zq1,zq2]
 refine FS.Xe rfl rfl 6 rfl rfl rfl rfl (fun _=>Iff.rfl) (fun w' hw'=>?_) ?_
 ·have hb':=hw'.world;have hX:=FS.ZN (hw'.fact 6 (by kernel_rfl));obtain⟨c0,c1,c2,c3,hB⟩:=shp4 hX.1;have m0:=hB.ce 0;have m1:=hB.ce 1;have m2:=hB.ce 2;have m3:=hB.ce 3;have mf:=hB.fz;have ml:=hB.lt;refine FS.Xf ?_ (jes hb' hX.2 hB (.bool y2.t.s) (.slice y2.t.a y2.t.n y2.t.c) (.bool y2.l.s) (.slice y2.l.a y2.l.n y2.l.c));clear hw';go_simp
  try rfl
 conv=>arg 10;simp only[Act.put,zq0,zq1,zq2]
 refine FS.Jo (fun w103 hb hF=>?_);have BX102:=qh (show Bxs w103 y6 28 [.bool y2.t.s,.slice y2.t.a y2.t.n y2.t.c,.bool y2.l.s,.slice y2.l.a y2.l.n y2.l.c] from QQ (hF.all 7));have N104:=qh (show ZqW w103 y2 from(FS.JU (val:=(fun x:FV=>.tuple #[x.v,.int .i64 6])) (Φ:=fun x w'=>ZqW w' x) (FV.injE 6) (hF.all 2)));clear hF;have NC:=qh (NC.o.below hb);have B3:=qh (B3.o.bl hb);have KG:=qk KG hb;clear hb;have SC:=qh (UU ⟨xa,xn,xc⟩ P y2 0 k n 1 w103 (HX.o.below KG.o) HPB.o HXN.o (N104.o.z.bf _).any (N104.o.z.lf _) (LS.zero.lq (by decide) (by decide)) HK.o HKK.o);have d50:=BX102.o.ce 0;have d51:=BX102.o.ce 1;have d52:=BX102.o.ce 2;have d53:=BX102.o.ce 3;have d5f:=BX102.o.fz;have d5l:=BX102.o.lt;go_wp2_with fail
 with_reducible refine SC.o.mono ?_
 rintro e w9 ⟨y,rfl,hy,hb⟩;have HY:=qh (hy.mono KG.o.size);have KG:=qk KG hb;clear hy hb SC;go_wp2_with fail
 go_ret;exact⟨y,rfl,HY.o,KG.o⟩
theorem prim_any (x:PV) (P:List Tm) (k n kc:Nat) (w:World) (hx:AP w x P) (hb:PB P n k 65535) (hxn:x.n<=1000000) (hk:n*k+1<=400000) (hk4:k<=400000) (hc:LQ (JW P) kc) (hc4:kc<=400000) (hkk:n*(k+kc+1)<=900000) :
  Calls Tryz.prog 33 #[x.v] w fun e w'=>∃ y:PV,e=.returned y.v/\DP w' w.heap.size y (Xj P)/\Below w.heap.size w w':=by
 have CT:=qh (YH hx hxn hb.lq (zm (Nat.succ_le_succ (Nat.mul_le_mul_right _ hb.len)) hk) hk4);have HX:=qh hx;have HPB:=qh hb;have HXN:=qh hxn;have HK4:=qh hk4;have HC:=qh hc;have HC4:=qh hc4;have HKK:=qh hkk;obtain⟨xa,xn,xc⟩:=x;clear hx hb hxn hk hk4 hc hc4 hkk;change Calls Tryz.prog 33 #[.slice xa xn xc] w _;go_enter Tryz.func33,Tryz.ntmps33;go_wp2_with fail
 with_reducible refine CT.o.mono ?_
 rintro e w1 ⟨c,rfl,hc,hb⟩;have KG:=qh hb
 have BY:=qh (show Calls Tryz.prog 140 #[.slice xa xn xc,c.v] w1 fun e w'=>∃ y:PV,e=.returned y.v/\DP w' w1.heap.size y (Xj P)/\Below w1.heap.size w1 w' from by
  by_cases h0:JW P=0
  ·have h:=by_z ⟨xa,xn,xc⟩ P c (JW P) k n w1 (HX.o.below KG.o) HPB.o HXN.o hc.k (HC.o.up HC4.o) h0 (by have:=HK4.o;omega) (zm (Nat.mul_le_mul_left _ (by have:=HC.o.l;have h1:Ja ((JW P).den:Int).natAbs≠0:=(by rw[Int.natAbs_natCast];exact fun e=>absurd (Qa.1 e) (by have:=(JW P).den_pos;omega));omega)) HKK.o);unfold Xj;rw[h0,show(1:Rat)/0=0 by decide +kernel];exact h
  ·exact by_k ⟨xa,xn,xc⟩ P c (JW P) k n kc w1 (HX.o.below KG.o) HPB.o HXN.o hc.k (HC.o.up HC4.o) h0 (lq_inv HC.o) (by have:=HK4.o;omega) HKK.o)
 clear hc hb CT;go_wp2_with fail
 with_reducible refine BY.o.mono ?_
 rintro e w2 ⟨y,rfl,hy,hb⟩;have HY:=qh (hy.mono KG.o.size);have KG:=qk KG hb;clear hy hb BY;go_wp2_with fail
 go_ret;exact⟨y,rfl,HY.o,KG.o⟩
structure ER (w:World) (lo:Nat) (v:Value) (L:List TE):Prop where
 row:OT w lo v (L.map Prod.fst)
 num:∀ e∈L,EF w lo e.1.c e.2
theorem ER.nil {w:World} {lo:Nat}:ER w lo (.slice none 0 0) []:=⟨World.ownsRow_nil _ _ _ _,fun _ h=>(by cases h)⟩
theorem ER.below {w w':World} {lo:Nat} {v:Value} {L:List TE} (h:ER w lo v L) (hb:Below w.heap.size w w'):ER w' lo v L:=⟨OT.below h.row hb,fun e he=>(h.num e he).below hb⟩
theorem ER.mono {w:World} {lo lo':Nat} {v:Value} {L:List TE} (h:ER w lo v L) (hl:lo'<=lo):ER w lo' v L:=⟨OT.mono h.row hl,fun e he=>(h.num e he).mono hl⟩
theorem ER.slice {w:World} {lo:Nat} {v:Value} {L:List TE} (h:ER w lo v L):∃ x:PV,v=x.v/\x.n=L.length:=by
 obtain⟨a,c,e,-,-⟩:=OT.slice h.row;exact⟨⟨a,L.length,c⟩,by rw[e,List.length_map],rfl⟩
theorem EF.alloc {w:World} {lo:Nat} {x:FV} {q:Rat} (h:EF w lo x q) (o:Obj):EF (w.alloc o) lo x q:=h.below (zk.alloc zj o)
theorem _root_.Go.RowKit.Below.ofAlloc {B:Nat} {w w':World} {o:Obj} (h:Below B (w.alloc o) w') (hb:B<=w.heap.size):Below B w w':=(zk.alloc hb o).trans h
def rowE (T:TypeId):Bool:=T==71 || T==160
theorem EF.rows {w w':World} {lo:Nat} {x:FV} {q:Rat} (h:EF w lo x q) (hs:∀ (b:Nat) (c:Array Value) (T:TypeId),w.heap[b]?=some (.cells c T (0,0))->rowE T=true->w'.heap[b]?=w.heap[b]?):EF w' lo x q:=h.kept fun b hb=>by
 rcases hb with hb | hb
 ·obtain⟨cur,h5⟩:=ZC h.t.own hb;exact hs b _ _ h5 rfl
 ·obtain⟨cur,h5⟩:=ZC h.l.own hb;exact hs b _ _ h5 rfl
theorem ER.rows {w w':World} {lo:Nat} {v:Value} {L:List TE} (h:ER w lo v L) (hs:∀ (b:Nat) (c:Array Value) (T:TypeId),w.heap[b]?=some (.cells c T (0,0))->rowE T=true->w'.heap[b]?=w.heap[b]?):ER w' lo v L:=by
 refine⟨⟨h.row.1,h.row.2.imp id ?_⟩,fun e he=>(h.num e he).rows hs⟩;rintro⟨g,cap,cur,hv,hlo,hgk,h3⟩;exact⟨g,cap,cur,hv,hlo,(hs g _ _ hgk rfl).trans hgk,h3⟩
structure NewT (w:World) (lo b:Nat) (m:Mo) (q:Rat):Prop where
 ex:∃ y:FV,Bxs w b 71 (TV.cells ⟨y,m⟩)/\EF w lo y q
theorem NewT.rows {w w':World} {lo b:Nat} {m:Mo} {q:Rat} (h:NewT w lo b m q) (hs:∀ (b:Nat) (c:Array Value) (T:TypeId),w.heap[b]?=some (.cells c T (0,0))->rowE T=true->w'.heap[b]?=w.heap[b]?):NewT w' lo b m q:=by
 obtain⟨y,h1,h2⟩:=h.ex;exact⟨y,(hs b _ _ h1 rfl).trans h1,h2.rows hs⟩
structure EP (w:World) (lo:Nat) (x:PV) (P:List Tm):Prop where
 ex:∃ L:List TE,ER w lo x.v L/\L.map tm=P
 canon:Canon P
 small:∀ t∈P,t.1.Small
theorem EP.k {w:World} {lo:Nat} {x:PV} {P:List Tm} (h:EP w lo x P):KP w x P:=by
 obtain⟨L,h1,h4⟩:=h.ex;obtain⟨a,c,e,hc,hr⟩:=OT.slice h1.row;obtain⟨xa,xn,xc⟩:=x;simp only[PV.v,Value.slice.injEq] at e;obtain⟨rfl,rfl,rfl⟩:=e;exact⟨⟨L,hr,(List.length_map ..).symm,fun e he=>(h1.num e he).k,h4⟩,hc,h.canon,h.small⟩
theorem EP.mono {w:World} {lo lo':Nat} {x:PV} {P:List Tm} (h:EP w lo x P) (hl:lo'<=lo):EP w lo' x P:=by
 obtain⟨L,h1,h4⟩:=h.ex;exact⟨⟨L,h1.mono hl,h4⟩,h.canon,h.small⟩
theorem EP.rows {w w':World} {lo:Nat} {x:PV} {P:List Tm} (h:EP w lo x P) (hs:∀ (b:Nat) (c:Array Value) (T:TypeId),w.heap[b]?=some (.cells c T (0,0))->rowE T=true->w'.heap[b]?=w.heap[b]?):EP w' lo x P:=by
 obtain⟨L,h1,h2⟩:=h.ex;exact⟨⟨L,h1.rows hs,h2⟩,h.canon,h.small⟩
theorem EP.nil {w:World} {lo:Nat}:EP w lo ⟨none,0,0⟩ []:=⟨⟨[],ER.nil,rfl⟩,Canon.nil,fun _ h=>(by cases h)⟩
theorem jc5 {w w':World} {lo lo':Nat} {x:NV} {z:Int} {v:Value} {ts:List TV} (h:DN w lo x z) (ho:OT w lo' v ts) (hg:w.grownBy w' v.ownBlock):DN w' lo x z:=by
 refine⟨h.s,h.n,⟨h.own.le,h.own.place.imp id fun ⟨g,cur,ha,hlo,hc,hr⟩=>⟨g,cur,ha,hlo,?_,hr⟩,h.own.rng⟩⟩;refine(hg.block g (lt_of_block hc) fun e=>?_).trans hc
 rcases ho.2 with ⟨hv,-⟩ | ⟨g2,cap,cur2,hv,-,hg2,-⟩
 ·rw[hv] at e;cases e
 ·rw[hv] at e;have e:some g=some g2:=e
  injection e with e
  subst e;rw[hc] at hg2
  cases hg2
theorem EF.grown {w w':World} {lo lo':Nat} {x:FV} {q:Rat} {v:Value} {ts:List TV} (h:EF w lo x q) (ho:OT w lo' v ts) (hg:w.grownBy w' v.ownBlock):EF w' lo x q:=⟨jc5 h.t ho hg,jc5 h.l ho hg⟩
theorem tv_one (t:TV):∀ u∈TV.cells t,u.oneCell'=true:=by
 intro u hu;simp only[TV.cells,List.mem_cons,List.mem_nil_iff,or_false] at hu
 rcases hu with rfl | rfl | rfl | rfl | rfl | rfl | rfl | rfl <;> rfl
theorem info8P:(Tryz.prog.info? 71).map (fun i=>(i.zero,i.size,i.bytes))=some (some (.agg #[.bool false,.slice none 0 0,.bool false,.slice none 0 0,.int .u16 0,.int .u16 0,.int .u16 0,.int .u16 0]),8,72):=by kernel_rfl
theorem U8 {ops:Array Oper} {rest:List Oper} {oo:Oper} {ac:Act} {Q:Exit->Act->World->Prop} (hgd:oo.guard=none) (s x:Operand)
  (ho:oo.op=.call { callee:=.builtin .append,args:=#[s,x],argTypes:=#[23,23] })
  {w:World} {lo:Nat} {v:Value} {L:List TE} (hs:ac.eval s=v) (h:ER w lo v L) (hn:L.length<=1000000000) (hb:lo<=w.heap.size)
  {gs:Nat} {t:TV} {q:Rat} {m c:Nat} (hx:ac.eval x=.slice (some ⟨gs,0,none⟩) m c) (hc:Bxs w gs 71 t.cells) (hq:EF w lo t.c q) (hm:m=1)
  (hK:∀ (z:PV) w',ER w' lo z.v (L++[(t,q)])->Below lo w w'->wpList Tryz.prog ops Q rest (ac.put oo.dst z.v) w'):wpList Tryz.prog ops Q (oo :: rest) ac w:=by
 subst hm;obtain⟨i0,hi,hz0,hz1,hz2⟩:=info_parts info8P;refine wpList_append_own _ hgd s x 23 ho lo 71 i0 _ 8 72 Tryz.underlying23 hi hz0 hz1 hz2 rfl (by decide) v _ _ hs h.row ⟨gs,0,none⟩ 1 c (TV.cells t) hx rfl (fun j u hj=>?_) (tv_one t) ?_ ?_ hb ?_
 ·rw[Addr.add_lit,Nat.zero_add];exact hc.cell hj
 ·rw[List.length_map];unfold maxLen;omega
 ·rw[List.length_map];omega
 ·intro v' w' hown hg _
  have e1:(L++[(t,q)]).map Prod.fst=L.map Prod.fst++[t]:=by rw[List.map_append];rfl
  have e2:(L.map Prod.fst++[t]).flatMap TV.cells=(L.map Prod.fst).flatMap TV.cells++TV.cells t:=by rw[List.flatMap_append,List.flatMap_cons,List.flatMap_nil,List.append_nil]
  have hr:OT w' lo v' ((L++[(t,q)]).map Prod.fst):=by
   rw[e1];show w'.ownsRow _ _ _ _ _ _;rw[e2,List.length_append];exact hown
  have hE:ER w' lo v' (L++[(t,q)]):=⟨hr,fun e he=>by
   rcases List.mem_append.1 he with he | he
   ·exact(h.num e he).grown h.row hg
   ·rw[List.mem_singleton.1 he];exact hq.grown h.row hg⟩
  obtain⟨z,rfl,-⟩:=hE.slice;exact hK z w' hE (zk.grown hg hb (fun g hg=>(World.ownsRow.lt h.row g hg).1))
theorem KP.get {w:World} {a:Option Addr} {n c:Nat} {P:List Tm} (h:KP w ⟨a,n,c⟩ P) {i:Nat} (hi:i<n):∃ (t:TV) (q:Rat) (b o:Nat),a=some ⟨b,o,none⟩/\RE w b o i t/\KF w t.c q/\P[i]?=some (t.m,q):=by
 obtain⟨L,h1,h2,h3,h4⟩:=h.ex;have hl:L.length=n:=h2;obtain⟨e,he⟩:∃ e,L[i]?=some e:=⟨_,List.getElem?_eq_getElem (by rw[hl];exact hi)⟩;obtain⟨b,o,ha,hc⟩:=(show RT w a (L.map Prod.fst) from h1).one (fun h0=>by rw[List.map_eq_nil_iff.1 h0] at he;simp at he);exact⟨e.1,e.2,b,o,ha,hc i e.1 (by rw[List.getElem?_map,he];rfl),h3 e (List.mem_of_getElem? he),by rw[<- h4,List.getElem?_map,he];rfl⟩
structure Bt (W w:World):Prop where
 b:Below W.heap.size W w
theorem Bt.below {W w w':World} (h:Bt W w) (hb:Below w.heap.size w w'):Bt W w':=⟨h.b.trans (hb.mono h.b.size)⟩
theorem jet {w:World} {x:PV} {P:List Tm} (h:AP w x P) (hq:∀ t∈P,LQ t.2 900000) (hn:x.n<=1000000000):∃ y:PV,KP w y P/\y.n<=x.n/\∀ W,Below w.heap.size w W->Calls Tryz.prog 79 #[x.v] W fun e w'=>e=.returned y.v/\Below W.heap.size W w':=by
 rcases h with h | ⟨h,rfl⟩
 ·exact⟨x,h,zj,fun W hb=>rfit_k (h.below hb) hq hn⟩
 ·exact⟨⟨none,0,0⟩,KP.nil _ _ _,Nat.zero_le _,fun W hb=>rfit_b (h.below hb) hn⟩
theorem ja1 {w:World} {lo b:Nat} {x:FV} {q:Rat} {t:TypeId} {u0 u1 u2 u3:Value} (h:EF w lo x q) (hb:Bxs w b t [u0,u1,u2,u3]) (ht:160≠t) (v0 v1 v2 v3:Value):EF (Yb w b v0 v1 v2 v3) lo x q :=
 (((h.Jt hb ht 0 v0).Jt (hb.put 0 v0) ht 1 v1).Jt ((hb.put 0 v0).put 1 v1) ht 2 v2).Jt (((hb.put 0 v0).put 1 v1).put 2 v2) ht 3 v3
theorem jek {P:List Tm} {r:Rat} {k:Nat} {m:Mo} {q:Rat} (h:P[k]?=some (m,q)):(JL r P)[k]?=some (m,q*r):=by
 unfold JL;rw[List.getElem?_map,h];rfl
theorem jbt {P:List Tm} {r:Rat} (hc:Canon P) (h:∀ t∈P,t.1.Small):∀ t∈Qp r P,t.1.Small:=by
 intro t ht;by_cases hr:r=0
 ·rw[hr,XM] at ht;cases ht
 ·rw[Vo hc hr] at ht;obtain⟨u,hu,rfl⟩:=List.mem_map.1 ht;exact h u hu
theorem jel (x:PV) (P:List Tm) (c:FV) (r:Rat) (w:World) (hx:AP w x P) (hq:∀ t∈P,LQ t.2 900000) (hxn:x.n<=1000000) (ac:AF w c r) (lc:LF c 900000) (lr:LQ r 900000) :
  Calls Tryz.prog 20 #[x.v,c.v] w fun e w'=>∃ y:PV,e=.returned y.v/\EP w' w.heap.size y (Qp r P)/\Below w.heap.size w w':=by
 obtain⟨⟨za,zn,zc⟩,hz,hzn,hct⟩:=jet hx hq (by omega);obtain⟨V,hV⟩:∃ V,V=w.alloc (.cells #[.bool c.t.s,.slice c.t.a c.t.n c.t.c,.bool c.l.s,.slice c.l.a c.l.n c.l.c] 28):=⟨_,rfl⟩
 have hbV:Below w.heap.size w V:=by rw[hV];exact zk.alloc zj _
 have B1:=qh (show Bxs V w.heap.size 28 [.bool c.t.s,.slice c.t.a c.t.n c.t.c,.bool c.l.s,.slice c.l.a c.l.n c.l.c] by rw[hV];exact Bxs.new w 28 [.bool c.t.s,.slice c.t.a c.t.n c.t.c,.bool c.l.s,.slice c.l.a c.l.n c.l.c]);have CT:=qh (hct V hbV);have AC:=qh (ac.below hbV);have LC:=qh lc;have LR:=qh lr;have FZ:=qh hz;have HQ:=qh hq;have KG:=qh hbV;have HV:=qh hV;have HZN:=qh (show zn<=1000000 from zm hzn hxn);have HPL:=qh (show zn=P.length from hz.len);obtain⟨xa,xn,xc⟩:=x;clear hV hbV hx ac lc lr hxn hzn hct hz hq;change Calls Tryz.prog 20 #[.slice xa xn xc,.agg #[.bool c.t.s,.slice c.t.a c.t.n c.t.c,.bool c.l.s,.slice c.l.a c.l.n c.l.c]] w _;go_enter Tryz.func20,Tryz.ntmps20;go_wp2_with fail
 rw[show w.alloc (.cells #[.bool c.t.s,.slice c.t.a c.t.n c.t.c,.bool c.l.s,.slice c.l.a c.l.n c.l.c] 28)=V from HV.o.symm];with_reducible refine CT.o.mono ?_
 rintro e w1 ⟨he,hb⟩;obtain rfl:e=.returned (.slice za zn zc):=he;have B1:=qh (B1.o.bl hb);have KG:=qk KG hb;have CF:=qh (show Calls Tryz.prog 80 #[.agg #[.bool c.t.s,.slice c.t.a c.t.n c.t.c,.bool c.l.s,.slice c.l.a c.l.n c.l.c]] w1 _ from rfitQ (x:=c) (AC.o.below hb) LC.o);clear hb CT AC LC;have c10:=B1.o.ce 0;have c11:=B1.o.ce 1;have c12:=B1.o.ce 2;have c13:=B1.o.ce 3;go_wp2_with fail
 with_reducible refine CF.o.mono ?_
 rintro e w2 ⟨d,rfl,hd,hb⟩;have NC:=qh hd;have B1:=qh (B1.o.bl hb);have KG:=qk KG hb;have HLD:=qh (show LF d 900000 from hd.len LR.o zj);clear hd hb CF c10 c11 c12 c13;have c10:=B1.o.ce 0;have c11:=B1.o.ce 1;have c12:=B1.o.ce 2;have c13:=B1.o.ce 3;have c1f:=B1.o.fz;have c1l:=B1.o.lt
 go_upto_region 3 with (fail)
 obtain⟨W,hW⟩:∃ W,W=Yb w2 w.heap.size (.bool d.t.s) (.slice d.t.a d.t.n d.t.c) (.bool d.l.s) (.slice d.l.a d.l.n d.l.c):=⟨_,rfl⟩;have NC:=qh (show KF W d r by rw[hW];exact put4_kf NC.o B1.o rfl rfl rfl rfl rfl rfl rfl);have KG:=qh (show Below w.heap.size w W by rw[hW];exact Qg KG.o zj ..);have B1:=qh (show Bxs W w.heap.size 28 [.bool d.t.s,.slice d.t.a d.t.n d.t.c,.bool d.l.s,.slice d.l.a d.l.n d.l.c] by rw[hW];exact QN B1.o ..);unfold Yb at hW;rw[<- hW];clear hW c10 c11 c12 c13 c1f c1l;obtain⟨sg,hsg⟩:∃ c,c=Jv r.num 0:=⟨_,rfl⟩;have HSG:=qh hsg.symm;have HLW:=qh KG.o.size;have HGS:=qh (show(sg != 0)=decide (r≠0) by rw[hsg];exact sg_ne);clear hsg;go_wp2_with fail
 go_loopw [5,6] (fun o i wr=>∃ (k:Nat) (y:PV) (L:List TE),o=y.v/\i=.int .i64 k/\k<=zn/\ER wr W.heap.size y.v L/\L.map tm=(JL r P).take k/\(0<k->r≠0)/\Below W.heap.size W wr) (fun _ i _=>zn-(intOf i).toNat)
 case atStart=>exact⟨0,⟨none,0,0⟩,[],rfl,rfl,Nat.zero_le _,ER.nil,rfl,fun h=>absurd h (Nat.lt_irrefl _),zk⟩
 case round =>
  obtain⟨k,⟨oa,on,oc⟩,L,ho,rfl,hkz,her,hL,hk0,hb0⟩:=hrel;obtain rfl:_=Value.slice oa on oc:=ho;have HKZ:=qh hkz;have ERR:=qh her;have HL:=qh hL;have HK0:=qh hk0;have KW:=qh (show Bt W wr from⟨hb0⟩);have B1:=qh (B1.o.bl hb0);have NC:=qh (NC.o.below hb0);have KG:=qk KG hb0;have HOL:=qh (show L.length<=zn by have h:=congrArg List.length hL;rw[List.length_map,List.length_take] at h;omega);clear hkz her hL hk0 hb0;by_cases hkl:k<zn
  ·have HKL:=qh hkl
   have hkl2:(k:Int)<(zn:Int):=by omega
   have CS:=qh (show Calls Tryz.prog 77 #[.agg #[.bool d.t.s,.slice d.t.a d.t.n d.t.c,.bool d.l.s,.slice d.l.a d.l.n d.l.c]] wr _ from Kt (x:=d) NC.o.any HLD.o);rw[HSG.o] at CS;clear hkl;have c10:=B1.o.ce 0;have c11:=B1.o.ce 1;have c12:=B1.o.ce 2;have c13:=B1.o.ce 3;go_wp2_with fail
   with_reducible refine CS.o.mono ?_
   rintro e w3 ⟨rfl,hb⟩;have ERR:=qh (ERR.o.below hb);have NC:=qh (NC.o.below hb);have KW:=qh (KW.o.below hb);have B1:=qh (B1.o.bl hb);have KG:=qk KG hb;clear hb CS c10 c11 c12 c13;by_cases hr:r=0
   ·have g0:(sg != 0)=false:=by rw[HGS.o];exact zo fun h=>h hr
    have g1:sg=0:=by simpa using g0
    have HK:=qh (show k=0 from Nat.eq_zero_of_not_pos fun h=>HK0.o h hr);have HR:=qh hr;clear hr;go_wp2_with fail
    go_ret;refine⟨⟨oa,on,oc⟩,rfl,⟨⟨L,ERR.o.mono HLW.o,?_⟩,Q4 _ _,?_⟩,KG.o⟩
    ·rw[HL.o,HK.o,HR.o,XM];rfl
    ·rw[HR.o,XM];intro t ht;cases ht
   ·have g0:(sg != 0)=true:=by rw[HGS.o];exact decide_eq_true hr
    have g1:¬(sg=0):=by simpa using g0
    have HR:=qh hr;obtain⟨t,q,pb,po,rfl,hre,hnf,htp⟩:=FZ.o.get HKL.o;have E1:=qh (hre.below KG.o);have NF:=qh (hnf.below KG.o);have HTP:=qh htp;have HLF:=qh (show LF t.c 900000 from hnf.len (HQ.o _ (List.mem_of_getElem? htp)) zj);have HLO:=qh KW.o.b.size;clear hr hre hnf htp
    go_upto_region 7 with (fail)
    refine FS.Jc 15 [] (FS.JM [(7,FS.Sp.made (fun x:FV=>x.v) (fun x w'=>EF w' w3.heap.size x (q*r)) FV.blk),(14,FS.Sp.made (fun b:Nat=>Value.slice (some ⟨b,0,none⟩) 1 1) (fun b w'=>NewT w' w3.heap.size b t.m (q*r)) (fun _ _=>False))])
     (fun w'=>Below w3.heap.size w3 w') (by kernel_rfl) (by kernel_rfl) (by kernel_rfl)
     (FS.Jd (FS.Sp.Jg _ (fun _ _ _ h _ hk=>h.kept hk) (FS.JN (by kernel_rfl))) (FS.Jd (FS.Sp.Yq _ rowE (fun _ _ _ h hs=>h.rows hs) (by kernel_rfl) (FS.JN (by kernel_rfl))) (FS.Jk))) (fun _ _ h hb=>h.trans (hb.mono h.size)) (zk.drew) ?_
    simp only[zu,zi,ze,zx,zy,zv,zw]
    iterate 7
     refine FS.Jb rfl rfl rfl ?_ (fun w' hw'=>?_) ?_;rotate_left
     ·have hb':=hw'.world;have hn:=HKL.o;obtain⟨hs0,hs1,hs2,hs3,hs4,hs5,hs6,hs7⟩:=(E1.o.below hb').eight;have hs0:=(B1.o.bl hb').ce 0;have hs1:=(B1.o.bl hb').ce 1;have hs2:=(B1.o.bl hb').ce 2;have hs3:=(B1.o.bl hb').ce 3;have hsf:=(B1.o.bl hb').fz;have hsl:=(B1.o.bl hb').lt;clear hw';go_simp
      try rfl
     conv=>arg 10;simp only[Act.put,zq0,zq1,zq2]
    refine FS.Jf rfl rfl rfl (fun w' hw'=>?_) ?_
    ·have hb':=hw'.world;refine FS.Jn (FS.PM (fun x:FV=>x.v) (fun x w'=>EF w' w3.heap.size x (q*r)) FV.blk w'.heap.size) ?_ (fun _ _ h=>h.post (fun _ _=>FV.inj));go_simp;have CT:=(show Calls Tryz.prog 81 #[.agg #[.bool t.c.t.s,.slice t.c.t.a t.c.t.n t.c.t.c,.bool t.c.l.s,.slice t.c.l.a t.c.l.n t.c.l.c],.agg #[.bool d.t.s,.slice d.t.a d.t.n d.t.c,.bool d.l.s,.slice d.l.a d.l.n d.l.c]] w' _ from rmulV (x:=t.c) (y:=d) (NF.o.below hb').any HLF.o (NC.o.below hb').any HLD.o);refine CT.mono ?_;rintro e w'' ⟨za,rfl,ho,hb⟩;exact⟨_,rfl,⟨za,rfl,ho.mono hb'.size,ho.QK⟩,hb⟩
    rintro _ ⟨y7,rfl⟩
    conv=>arg 10;simp only[Act.put,zq0,zq1,zq2]
    iterate 6
     refine FS.Jb rfl rfl rfl ?_ (fun w' hw'=>?_) ?_;rotate_left
     ·have hb':=hw'.world;have hn:=HKL.o;obtain⟨hs0,hs1,hs2,hs3,hs4,hs5,hs6,hs7⟩:=(E1.o.below hb').eight;clear hw';go_simp
      try rfl
     conv=>arg 10;simp only[Act.put,zq0,zq1,zq2]
    refine FS.Jf rfl rfl rfl (fun w' hw'=>?_) ?_
    ·have hb':=hw'.world;refine FS.Jn (FS.PM (fun b:Nat=>Value.slice (some ⟨b,0,none⟩) 1 1) (fun b w'=>NewT w' w3.heap.size b t.m (q*r)) (fun _ _=>False) w'.heap.size) ?_ (fun _ _ h=>h.post (fun _ _ h=>by cases h;rfl));go_simp;have f7:=FS.JU (val:=(fun x:FV=>x.v)) (Φ:=fun x w'=>EF w' w3.heap.size x (q*r)) (fun _ _=>FV.inj) (hw'.fact2 13 7 (by kernel_rfl) (by kernel_rfl));exact⟨⟨w'.heap.size,rfl,⟨⟨y7,Bxs.new w' _ (TV.cells ⟨y7,t.m⟩),f7.alloc _⟩⟩,fun _ h=>False.elim h⟩,zk.alloc zj _⟩
    rintro _ ⟨y14,rfl⟩
    conv=>arg 10;simp only[Act.put,zq0,zq1,zq2]
    refine FS.Jo (fun w101 hb hF=>?_);obtain⟨⟨yy104,hB,hE⟩⟩:=FS.JU (val:=(fun b:Nat=>Value.slice (some ⟨b,0,none⟩) 1 1)) (Φ:=fun b w'=>NewT w' w3.heap.size b t.m (q*r)) (fun _ _ h=>by cases h;rfl) (hF.all 14);have NB102:=qh hB;have NE103:=qh hE;clear hB hE;clear hF;have NF:=qh (NF.o.below hb);have NC:=qh (NC.o.below hb);have ERR:=qh (ERR.o.below hb);have KW:=qh (KW.o.below hb);have B1:=qh (B1.o.bl hb);have KG:=qk KG hb;clear hb;go_wp2_with (first | (at_builtin;refine U8 (t:=⟨yy104,t.m⟩) rfl _ _ rfl rfl ERR.o (by have:=HOL.o;have:=HZN.o;omega) KW.o.b.size rfl NB102.o (NE103.o.mono HLO.o) rfl ?_))
    intro z9 w9 her9 hb9;obtain⟨za9,zn9,zc9⟩:=z9;have ER9:=qh her9;have HB9:=qh hb9;clear her9 hb9;have ek1:IntKind.i64.wrap ((k:Int)+1)=(k:Int)+1:=IntWalk.i64_in _ (by have:=HKL.o;have:=HZN.o;omega);go_wp2_with fail
    go_roundw
    case rel =>
     refine⟨k+1,⟨za9,zn9,zc9⟩,L++[(⟨yy104,t.m⟩,q*r)],rfl,rfl,HKL.o,ER9.o,?_,fun _=>HR.o,KW.o.b.trans HB9.o⟩;rw[List.map_append,HL.o,List.take_add_one,jek HTP.o];rfl
    case measure=>simp[intOf];have:=HKL.o;omega
  ·have HKE:=qh (show k=zn by have:=HKZ.o;omega)
   have hge:¬((k:Int)<(zn:Int)):=by omega
   clear hkl;go_wp2_with fail
   go_ret;refine⟨⟨oa,on,oc⟩,rfl,⟨⟨L,ERR.o.mono HLW.o,?_⟩,Q4 _ _,jbt FZ.o.canon FZ.o.small⟩,KG.o⟩;rw[HL.o,HKE.o,HPL.o];by_cases hr:r=0
   ·have h0:P.length=0:=Nat.eq_zero_of_not_pos fun h=>HK0.o (by rw[HKE.o,HPL.o];exact h) hr
    rw[hr,XM,h0];rfl
   ·rw[Vo FZ.o.canon hr,List.take_of_length_le (by unfold JL;rw[List.length_map];exact zj)]
theorem rdivV {w:World} {x y:FV} {p q:Rat} (h1:KF w x p) (b1:LF x 900000) (h2:KF w y q) (b2:LF y 900000) (hz:q≠0):Calls Tryz.prog 147 #[x.v,y.v] w fun e w'=>∃ z:FV,e=.returned (.tuple #[z.v,.int .i64 0])/\EF w' w.heap.size z (p/q)/\Below w.heap.size w w':=by
 obtain⟨x1,x2⟩:=x;obtain⟨y1,y2⟩:=y;obtain⟨s1,a1,n1,c1⟩:=x1;obtain⟨s2,a2,n2,c2⟩:=x2;obtain⟨s3,a3,n3,c3⟩:=y1;obtain⟨s4,a4,n4,c4⟩:=y2;obtain⟨⟨e1,e2,r1,l1⟩,⟨e3,e4,r2,l2⟩⟩:=h1;obtain⟨⟨e5,e6,r3,l3⟩,⟨e7,e8,r4,l4⟩⟩:=h2;simp only at e1 e2 e3 e4 e5 e6 e7 e8;subst e1 e2 e3 e4 e5 e6 e7 e8;obtain⟨g1,g2⟩:=b1;obtain⟨g3,g4⟩:=b2;refine(rfdiv_ok _ a1 _ c1 _ _ a2 _ c2 _ _ a3 _ c3 _ _ a4 _ c4 _ w p q (Xa p).symm (Xa q).symm r1 g1 l1 r2 g2 l2 r3 g3 l3 r4 g4 l4 (Xw p) (Xw q) hz).mono ?_;rintro e w' ⟨b1,d1,b2,d2,rfl,o1,o2,hb⟩;exact⟨⟨⟨_,b1,_,d1⟩,⟨_,b2,_,d2⟩⟩,rfl,⟨⟨rfl,rfl,o1⟩,⟨rfl,rfl,o2⟩⟩,hb⟩
theorem TwN.grown {w w':World} {lo lo':Nat} {t x:NV} {o:Nat->Int} {v:Value} {ts:List TV} (h:TwN w lo t x o) (ho:OT w lo' v ts) (hg:w.grownBy w' v.ownBlock):TwN w' lo t x o:=h.kept fun b ⟨p,hp,e⟩=>by
 obtain⟨cur,hc⟩:=ZC h.own ⟨p,hp,e⟩
 refine hg.block b (lt_of_block hc) fun e2=>?_
 rcases ho.2 with ⟨hv,-⟩ | ⟨g2,cap,cur2,hv,-,hg2,-⟩
 ·rw[hv] at e2;cases e2
 ·rw[hv] at e2;have e2:some b=some g2:=e2
  injection e2 with e2
  subst e2;rw[hc] at hg2
  cases hg2
theorem TwF.grown {w w':World} {lo lo':Nat} {t x:FV} {o1 o2:Nat->Int} {v:Value} {ts:List TV} (h:TwF w lo t x o1 o2) (ho:OT w lo' v ts) (hg:w.grownBy w' v.ownBlock):TwF w' lo t x o1 o2:=⟨h.top.grown ho hg,h.low.grown ho hg,h.ap⟩
def TwE (w0 w:World) (lo:Nat) (t u:TV):Prop:=t.m=u.m/\∃ o1 o2,Rd w0 u.c.t.a u.c.t.n o1/\Rd w0 u.c.l.a u.c.l.n o2/\TwF w lo t.c u.c o1 o2
theorem TwE.grown {w0 w w':World} {lo lo':Nat} {t u:TV} {v:Value} {ts:List TV} (h:TwE w0 w lo t u) (ho:OT w lo' v ts) (hg:w.grownBy w' v.ownBlock):TwE w0 w' lo t u:=by
 obtain⟨e,o1,o2,h1,h2,h3⟩:=h;exact⟨e,o1,o2,h1,h2,h3.grown ho hg⟩
theorem TwE.below {w0 w w':World} {lo:Nat} {t u:TV} (h:TwE w0 w lo t u) (hb:Below w.heap.size w w'):TwE w0 w' lo t u:=by
 obtain⟨e,o1,o2,h1,h2,h3⟩:=h;exact⟨e,o1,o2,h1,h2,h3.below hb⟩
theorem TwE.QK {w0 w:World} {lo:Nat} {t u:TV} (h:TwE w0 w lo t u):∀ b,FV.blk t.c b->lo<=b/\b<w.heap.size:=by
 obtain⟨e,o1,o2,h1,h2,h3⟩:=h;exact h3.QK
structure jbg (w0 w:World) (lo:Nat) (v:Value) (ts us:List TV):Prop where
 row:OT w lo v ts
 len:ts.length=us.length
 each:∀ (i:Nat) (t u:TV),ts[i]?=some t->us[i]?=some u->TwE w0 w lo t u
 ap:ts.Pairwise fun t s=>FV.apart t.c s.c
theorem jbg.below {w0 w w':World} {lo:Nat} {v:Value} {ts us:List TV} (h:jbg w0 w lo v ts us) (hb:Below w.heap.size w w'):jbg w0 w' lo v ts us:=⟨OT.below h.row hb,h.len,fun i t u h1 h2=>(h.each i t u h1 h2).below hb,h.ap⟩
def YN:TV:=⟨⟨⟨false,none,0,0⟩,⟨false,none,0,0⟩⟩,⟨77,77,77,0⟩⟩
structure TwP (w0 w:World) (lo:Nat) (x:PV) (ts us:List TV):Prop where
 row:OT w lo (.slice x.a (x.n+1) x.c) (ts++[YN])
 n:x.n=us.length
 len:ts.length=us.length
 each:∀ (i:Nat) (t u:TV),ts[i]?=some t->us[i]?=some u->TwE w0 w lo t u
 ap:ts.Pairwise fun t s=>FV.apart t.c s.c
theorem info8L:(Tryz.prog.info? 71).map (fun i=>(i.zero,i.size,i.bytes))=some (some (.agg #[.bool false,.slice none 0 0,.bool false,.slice none 0 0,.int .u16 0,.int .u16 0,.int .u16 0,.int .u16 0]),8,72):=by kernel_rfl
theorem Kk {ops:Array Oper} {rest:List Oper} {oo:Oper} {ac:Act} {Q:Exit->Act->World->Prop} (hgd:oo.guard=none) (s x:Operand)
  (ho:oo.op=.call { callee:=.builtin .append,args:=#[s,x],argTypes:=#[22,22] })
  {w:World} {lo:Nat} {v:Value} {ts:List TV} (hs:ac.eval s=v) (h:OT w lo v ts) (hn:ts.length<=1000000000) (hb:lo<=w.heap.size)
  {gs:Nat} {t:TV} {m c:Nat} (hx:ac.eval x=.slice (some ⟨gs,0,none⟩) m c) (hc:Bxs w gs 71 t.cells) (hm:m=1)
  (hK:∀ (a:Option Addr) (c':Nat) w',OT w' lo (.slice a (ts.length+1) c') (ts++[t])->ts.length+1<=c'->w.grownBy w' v.ownBlock->Below lo w w'->wpList Tryz.prog ops Q rest (ac.put oo.dst (.slice a (ts.length+1) c')) w'):wpList Tryz.prog ops Q (oo :: rest) ac w:=by
 subst hm;obtain⟨i0,hi,hz0,hz1,hz2⟩:=info_parts info8L;refine wpList_append_own _ hgd s x 22 ho lo 71 i0 _ 8 72 Tryz.underlying22 hi hz0 hz1 hz2 rfl (by decide) v _ _ hs h ⟨gs,0,none⟩ 1 c (TV.cells t) hx rfl (fun j u hj=>?_) (tv_one t) ?_ ?_ hb ?_
 ·rw[Addr.add_lit,Nat.zero_add];exact hc.cell hj
 ·unfold maxLen;omega
 ·omega
 ·intro v' w' hown hg _
  have e2:(ts++[t]).flatMap TV.cells=ts.flatMap TV.cells++TV.cells t:=by rw[List.flatMap_append,List.flatMap_cons,List.flatMap_nil,List.append_nil]
  have hr:OT w' lo v' (ts++[t]):=by
   show w'.ownsRow _ _ _ _ _ _;rw[e2,List.length_append];exact hown
  obtain⟨a,c',rfl,hc',-⟩:=OT.slice hr
  have hl:(ts++[t]).length=ts.length+1:=by rw[List.length_append];rfl
  rw[hl] at hr hc' ⊢;exact hK a c' w' hr hc' hg (zk.grown hg hb (fun g hg=>(World.ownsRow.lt h g hg).1))
theorem Kl (x:PV) (us:List TV) (w:World) (hr:RT w x.a us) (hn:us.length=x.n) (hx:x.n<=1000000) (hrd:∀ u∈us,∃ o1 o2,Rd w u.c.t.a u.c.t.n o1/\Rd w u.c.l.a u.c.l.n o2/\u.c.t.n<=100000000/\u.c.l.n<=100000000) :
  Calls Tryz.prog 12 #[x.v] w fun e w'=>∃ (y:PV) (ts:List TV),e=.returned y.v/\y.n=x.n/\TwP w w' w.heap.size y ts us/\Below w.heap.size w w':=by
 obtain⟨xa,xn,xc⟩:=x;have HR:=qh (show RT w xa us from hr);have HN:=qh (show us.length=xn from hn);have HX:=qh (show xn<=1000000 from hx);have HRD:=qh hrd;clear hr hn hx hrd;change Calls Tryz.prog 12 #[.slice xa xn xc] w _;obtain⟨i0,hi,hz0,hz1,hz2⟩:=info_parts info8L;have e1:=IntWalk.i64_in ((xn:Int)+1) (by have:=HX.o;omega);obtain⟨MC,hMC⟩:∃ c,c=madeCells (Value.agg #[.bool false,.slice none 0 0,.bool false,.slice none 0 0,.int .u16 0,.int .u16 0,.int .u16 0,.int .u16 0]).cells ((xn+1)*8):=⟨_,rfl⟩
 have hmk:∀ w:World,(Instr.makeSlice 22 (.int .i64 0) (.int .i64 ((xn:Int)+1))).run Tryz.prog w=.ok (.slice (some ⟨w.heap.size,0,none⟩) 0 (xn+1)) (w.alloc (.cells MC 71)):=by
  intro w;have h:=run_make (P:=Tryz.prog) w 22 71 i0 _ Tryz.underlying22 hi hz0 .i64 .i64 0 ((xn:Int)+1) (by omega) (by omega) (by rw[hz2];have:=HX.o;omega) (by have:=HX.o;omega);rw[hz1,show((xn:Int)+1).toNat=xn+1 by omega,<- hMC] at h;exact h
 have hms:MC.size=(xn+1)*8:=by rw[hMC];simp[madeCells]
 have HMS:=qh hms;clear hMC hms hz0 hz1 hz2 hi;go_enter Tryz.func12,Tryz.ntmps12
 go_upto_region 2 with (fail)
 obtain⟨V,hV⟩:∃ X,X=w.alloc (.cells MC 71):=⟨_,rfl⟩
 have hbV:Below w.heap.size w V:=by rw[hV];exact zk.alloc zj _
 have HO:=qh (show OT V w.heap.size (.slice (some ⟨w.heap.size,0,none⟩) 0 (xn+1)) [] by
  rw[hV];show World.ownsRow _ _ _ _ _ _ _
  exact⟨rfl,.inr ⟨w.heap.size,xn+1,MC,rfl,zj,heap_alloc_new w _,Nat.zero_le _,by have:=HX.o;unfold maxLen;omega,HMS.o,rfl⟩⟩)
 have KG:=qh hbV;rw[<- hV];clear hV hbV hmk;go_wp2_with fail
 go_loopw [3,4] (fun v i wr=>∃ (k:Nat) (ts:List TV) (a:Option Addr) (c:Nat),k<=xn/\i=.int .i64 k/\v=.slice a k c/\jbg w wr w.heap.size v ts (us.take k)/\Below w.heap.size w wr) (fun _ i _=>xn-(intOf i).toNat)
 case atStart=>exact⟨0,[],_,_,Nat.zero_le _,rfl,rfl,⟨HO.o,rfl,fun i t u h=>by simp at h,List.Pairwise.nil⟩,KG.o⟩
 case round =>
  obtain⟨k,ts,a,c,hk,rfl,rfl,hR,hb0⟩:=hrel;have HKN:=qh hk;have TR:=qh hR;have KG:=qh hb0
  have htl:ts.length=k:=by rw[hR.len,List.length_take,HN.o];omega
  have HTL:=qh htl;clear hk hR hb0 htl HO;by_cases hkl:k<xn
  ·have HKL:=qh hkl
   have hlt:(k:Int)<(xn:Int):=by omega
   obtain⟨u,hu⟩:∃ u,us[k]?=some u:=⟨_,List.getElem?_eq_getElem (by rw[HN.o];exact hkl)⟩;have HU:=qh hu;obtain⟨pb,po,rfl,hre⟩:=HR.o.one (fun e=>by rw[e] at hu;simp at hu);obtain⟨o1,o2,r1,r2,g1,g2⟩:=HRD.o u (List.mem_of_getElem? hu);have E1:=qh ((hre k u hu).below KG.o);have CT:=qh (show Calls Tryz.prog 67 #[.agg #[.bool u.c.t.s,.slice u.c.t.a u.c.t.n u.c.t.c,.bool u.c.l.s,.slice u.c.l.a u.c.l.n u.c.l.c,.int .u16 u.m.x,.int .u16 u.m.y,.int .u16 u.m.z,.int .u16 u.m.t]] wr _ from U7 u o1 o2 wr (r1.below KG.o) g1 (r2.below KG.o) g2);have R1:=qh r1;have R2:=qh r2;have ek:IntKind.i64.wrap ((k:Int)+1)=(k:Int)+1:=IntWalk.i64_in _ (by have:=HKL.o;have:=HX.o;omega);obtain⟨c0,c1,c2,c3,c4,c5,c6,c7⟩:=E1.o.eight;clear hkl hu hre r1 r2 g1 g2;go_wp2_with fail
   with_reducible refine CT.o.mono ?_
   rintro e w1 ⟨y,rfl,hy,hb⟩;have HSZ:=qh KG.o.size;have HY:=qh hy
   have HBK:=qh (show ∀ t∈ts,∀ b,FV.blk t.c b->b<wr.heap.size from fun t ht b hbk=>by
    obtain⟨i,hi⟩:=List.mem_iff_getElem?.1 ht;have hil:=(List.getElem?_eq_some_iff.1 hi).1;obtain⟨u2,hu2⟩:∃ u2,(us.take k)[i]?=some u2:=⟨_,List.getElem?_eq_getElem (by rw[<- TR.o.len];exact hil)⟩
    exact((TR.o.each i t u2 hi hu2).QK b hbk).2)
   have TR:=qh (TR.o.below hb);have KG:=qk KG hb;clear hy hb CT c0 c1 c2 c3 c4 c5 c6 c7;go_wp2_with (first | (at_builtin;refine Kk (t:=⟨y,u.m⟩) rfl _ _ rfl rfl (OT.below TR.o.row (zk.alloc zj _)) (by rw[HTL.o];have:=HKL.o;have:=HX.o;omega) (by have h9:=KG.o.size;rw[World.size_alloc];omega) rfl (Bxs.new _ _ _) rfl ?_))
   intro a9 c9 w9 hot hle hg hb9;have hal:Below w1.heap.size w1 (w1.alloc (.cells #[.bool y.t.s,.slice y.t.a y.t.n y.t.c,.bool y.l.s,.slice y.l.a y.l.n y.l.c,.int .u16 u.m.x,.int .u16 u.m.y,.int .u16 u.m.z,.int .u16 u.m.t] 71)):=zk.alloc zj _;have HOA:=OT.below TR.o.row hal
   have TR2:=qh (show jbg w w9 w.heap.size (.slice a9 (k+1) c9) (ts++[⟨y,u.m⟩]) (us.take (k+1)) by
    refine⟨by rw[HTL.o] at hot;exact hot,?_,fun i t v h1 h2=>?_,?_⟩
    ·rw[List.length_append,HTL.o,List.length_take,HN.o];have:=HKL.o;simp;omega
    ·by_cases hi:i<k
     ·rw[List.getElem?_append_left (by rw[HTL.o];exact hi)] at h1;rw[List.getElem?_take,if_pos (by omega)] at h2;exact((TR.o.each i t v h1 (by rw[List.getElem?_take,if_pos hi];exact h2)).below hal).grown HOA hg
     ·have hil:=(List.getElem?_eq_some_iff.1 h1).1;rw[List.length_append,HTL.o] at hil
      obtain rfl:i=k:=by simp at hil;omega
      rw[List.getElem?_append_right (by rw[HTL.o];exact zj),HTL.o,Nat.sub_self] at h1;obtain rfl:(⟨y,u.m⟩:TV)=t:=Option.some.inj h1;rw[List.getElem?_take,if_pos (by omega),HU.o] at h2;obtain rfl:=Option.some.inj h2;exact TwE.grown (TwE.below ⟨rfl,o1,o2,R1.o,R2.o,HY.o.mono HSZ.o⟩ hal) HOA hg
    ·refine List.pairwise_append.2 ⟨TR.o.ap,List.pairwise_singleton _ _,fun t ht s hs=>?_⟩;rw[List.mem_singleton.1 hs];intro b h1 h2;have:=HBK.o t ht b h1;have:=(HY.o.QK b h2).1
     omega)
   have KG9:=qh (KG.o.trans (hb9.ofAlloc KG.o.size));have HLC:=qh HTL.o;rw[HLC.o];clear hot hle hg hb9 hal HOA;go_wp2_with fail
   go_roundw
   case rel=>exact⟨k+1,_,a9,c9,HKL.o,rfl,rfl,TR2.o,KG9.o⟩
   case measure=>simp[intOf];have:=HKL.o;omega
  ·have hge:¬((k:Int)<(xn:Int)):=by omega
   obtain rfl:k=xn:=by have:=HKN.o;omega
   clear hkl
   have TR:=qh (show jbg w wr w.heap.size (.slice a k c) ts us by
    have h:=TR.o
    rwa [List.take_of_length_le (by rw[HN.o];exact zj)] at h)
   go_wp2_with (first | (at_builtin;refine Kk (t:=YN) rfl _ _ rfl rfl (OT.below TR.o.row (zk.alloc zj _)) (by rw[HTL.o];have:=HX.o;omega) (by have h9:=KG.o.size;rw[World.size_alloc];omega) rfl (Bxs.new _ _ _) rfl ?_))
   intro a9 c9 w9 hot hle hg hb9;have hal:Below wr.heap.size wr (wr.alloc (.cells (TV.cells YN).toArray 71)):=zk.alloc zj _;have HOA:=OT.below TR.o.row hal;rw[HTL.o] at hot hle ⊢;have TP:=qh (show TwP w w9 w.heap.size ⟨a9,k,c9⟩ ts us from⟨hot,HN.o.symm,TR.o.len,fun i t v h1 h2=>((TR.o.each i t v h1 h2).below hal).grown HOA hg,TR.o.ap⟩);have KG9:=qh (KG.o.trans (hb9.ofAlloc KG.o.size))
   have hl1:(k:Int)<=(c9:Int):=by omega
   have hl2:k<=c9:=by omega
   clear hot hle hg hb9 hal HOA;go_wp2_with fail
   go_ret;exact⟨⟨a9,k,c9⟩,ts,rfl,rfl,TP.o,KG9.o⟩
theorem KP.cons {w:World} {a:Option Addr} {n c:Nat} {P:List Tm} (h:KP w ⟨a,n,c⟩ P) (hn:0<n):∃ (t:TV) (q:Rat) (b o:Nat) (P2:List Tm),a=some ⟨b,o,none⟩/\P=(t.m,q) :: P2/\RE w b o 0 t/\KF w t.c q/\KP w ⟨if c=1 then some ⟨b,o,none⟩ else some ⟨b,o+8,none⟩,n-1,c-1⟩ P2:=by
 obtain⟨L,h1,h2,h3,h4⟩:=h.ex;have h2:L.length=n:=h2
 match L,h1,h2,h3,h4 with
 | [],_,h2,_,_=>simp at h2;omega
 | e :: r,h1,h2,h3,h4 =>
  obtain⟨b,o,ha,hc⟩:=(show RT w a ((e :: r).map Prod.fst) from h1).ex (by simp);have hle:n<=c:=h.le;have hcn:Canon P:=h.canon;have hsm:=h.small;rw[<- h4] at hcn hsm;have hlen:(e :: r).length=n:=h2;rw[List.length_cons] at hlen;refine⟨e.1,e.2,b,o,r.map tm,ha,h4.symm,⟨block_lt_of_cell (hc 0 e.1 rfl 0 _ rfl),fun j v hj=>hc 0 e.1 rfl j v hj⟩,h3 e (List.mem_cons_self ..),⟨r,⟨fun hn0=>⟨b,o+8,?_,fun i t hi j v hj=>?_⟩⟩,?_,fun f hf=>h3 f (List.mem_cons_of_mem _ hf),rfl⟩,?_,hcn.tail,fun t ht=>hsm t (List.mem_cons_of_mem _ ht)⟩
  ·refine if_neg fun hc1=>hn0 ?_
   have:r.length=0:=by omega
   rw[List.length_eq_zero_iff.1 this];rfl
  ·have h5:=hc (i+1) t (by simpa using hi) j v hj;rw[show o+(i+1)*8+j=o+8+i*8+j by omega] at h5;exact h5
  ·show r.length=n-1;omega
  ·show n-1<=c-1;omega

end Pol
end Go.Proofs.YtgkkbkoiaccmfaaGreatDoor
