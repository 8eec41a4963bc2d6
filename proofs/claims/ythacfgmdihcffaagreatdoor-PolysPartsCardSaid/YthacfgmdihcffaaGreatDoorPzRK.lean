/-
  The document's answer for fracs: lowest.
-/
import Derived.Test.YthacfgmdihcffaaGreatDoorPzRJ
set_option linter.unusedSimpArgs false
set_option linter.unusedVariables false
set_option maxHeartbeats 16000000
set_option maxRecDepth 100000
namespace Go.Proofs.YthacfgmdihcffaaGreatDoor
namespace Limb
open Go.RowKit Go.Sort Go.Fresh
theorem results_cc {P:Program} {fn:Func} {p q:Tmp} {ty ty2:TypeId} (h:fn.results=#[.cell p ty,.cell q ty2]) (tmps:Array Value) (w:World) (g g2:Nat) (ta tb:TypeId) (cs cs2:Array Value) (fr fr2:Nat × Nat) (d d2:TypeDesc)
  (hp:tmps.getD p undef=.pointer (some ⟨g,0,none⟩)) (hg:w.heap[g]?=some (.cells cs ta fr)) (hq:tmps.getD q undef=.pointer (some ⟨g2,0,none⟩)) (hg2:w.heap[g2]?=some (.cells cs2 tb fr2))
  (hu:P.underlying ty=some d) (hd:(match d with | .struct _ | .array _ _=>true | _=>false)=true) (hi:(P.info? ty).map (·.size)=some cs.size)
  (hu2:P.underlying ty2=some d2) (hd2:(match d2 with | .struct _ | .array _ _=>true | _=>false)=true) (hi2:(P.info? ty2).map (·.size)=some cs2.size) :
  (results fn tmps).run P w=.ok (.tuple #[.agg cs,.agg cs2]) w:=by
 have hp':tmps[p]?.getD undef=.pointer (some ⟨g,0,none⟩):=by simpa using hp
 have hq':tmps[q]?.getD undef=.pointer (some ⟨g2,0,none⟩):=by simpa using hq
 simp[results,h,hp',hq',asAddr,run_loadVar_row w g ta ty cs fr d hg hu hd hi,run_loadVar_row w g2 tb ty2 cs2 fr2 d2 hg2 hu2 hd2 hi2]
theorem brought_any (s1:Bool) (a1:Option Addr) (n1 c1:Nat) (o1:Nat->Int) (s2:Bool) (a2:Option Addr) (n2 c2:Nat) (o2:Nat->Int) (s3:Bool) (a3:Option Addr) (n3 c3:Nat) (o3:Nat->Int) (s4:Bool) (a4:Option Addr) (n4 c4:Nat) (o4:Nat->Int) (w:World) (x y:Rat)
  (hx:x=valF s1 n1 o1 s2 n2 o2) (hy:y=valF s3 n3 o3 s4 n4 o4)
  (h1:Rd w a1 n1 o1) (hn1:n1<=1000000) (hc1:n1<=c1) (h2:Rd w a2 n2 o2) (hn2:n2<=1000000) (hc2:n2<=c2) (h3:Rd w a3 n3 o3) (hn3:n3<=1000000) (hc3:n3<=c3) (h4:Rd w a4 n4 o4) (hn4:n4<=1000000) (hc4:n4<=c4) :
  Calls Tryz.prog 163 #[fracV s1 a1 n1 c1 s2 a2 n2 c2,fracV s3 a3 n3 c3 s4 a4 n4 c4] w (Brought w (x.num*(y.den:Int)) (y.num*(x.den:Int)) ((x.den:Int)*(y.den:Int))):=by
 have hfar:∀ {a:Option Addr} {n:Nat} {o:Nat->Int},Rd w a n o->0<n->∀ p,a=some p->p.block<w.heap.size:=fun h h0 p hp=>by
  obtain⟨b,off,e,hc⟩:=h.cells h0
  rw[e] at hp;cases hp
  exact block_lt_of_cell (hc 0 h0)
 have OX:=qh (fun (w':World) (hb:Below w.heap.size w w')=>fof2_any s1 a1 n1 c1 o1 s2 a2 n2 c2 o2 w' w.heap.size hb.size (h1.below hb) (by omega) hc1 (hfar h1) (h2.below hb) (by omega) hc2 (hfar h2));have OY:=qh (fun (w':World) (hb:Below w.heap.size w w')=>fof2_any s3 a3 n3 c3 o3 s4 a4 n4 c4 o4 w' w.heap.size hb.size (h3.below hb) (by omega) hc3 (hfar h3) (h4.below hb) (by omega) hc4 (hfar h4));have l1:=valF_len (s1:=s1) (s2:=s2) h1.rng h2.rng;have l2:=valF_len (s1:=s3) (s2:=s4) h3.rng h4.rng;rw[<- hx] at OX l1;rw[<- hy] at OY l2;obtain⟨p,hp⟩:∃ p,p=x.num:=⟨_,rfl⟩;obtain⟨q,hq⟩:∃ q:Int,q=(x.den:Int):=⟨_,rfl⟩;obtain⟨r,hr⟩:∃ r,r=y.num:=⟨_,rfl⟩;obtain⟨t,ht⟩:∃ t:Int,t=(y.den:Int):=⟨_,rfl⟩;rw[<- hp,<- hq] at OX l1;rw[<- hr,<- ht] at OY l2;rw[<- hp,<- hq,<- hr,<- ht];have HL:=qh (show(lenB p.natAbs<=1000001/\lenB q.natAbs<=1000001)/\lenB r.natAbs<=1000001/\lenB t.natAbs<=1000001 by omega);clear hp hq hr ht hx hy h1 h2 h3 h4 l1 l2 hfar;have HB1:=qh ((((Bxs.new w 32 [.bool s1,.slice a1 n1 c1,.bool s2,.slice a2 n2 c2]).alloc (.cells #[.bool s3,.slice a3 n3 c3,.bool s4,.slice a4 n4 c4] 32)).alloc (.cells #[.bool false,.slice none 0 0,.bool false,.slice none 0 0] 206)).alloc (.cells #[.bool false,.slice none 0 0] 30));have HB2:=qh (((Bxs.new (w.alloc (.cells #[.bool s1,.slice a1 n1 c1,.bool s2,.slice a2 n2 c2] 32)) 32 [.bool s3,.slice a3 n3 c3,.bool s4,.slice a4 n4 c4]).alloc (.cells #[.bool false,.slice none 0 0,.bool false,.slice none 0 0] 206)).alloc (.cells #[.bool false,.slice none 0 0] 30));have HB4:=qh ((Bxs.new ((w.alloc (.cells #[.bool s1,.slice a1 n1 c1,.bool s2,.slice a2 n2 c2] 32)).alloc (.cells #[.bool s3,.slice a3 n3 c3,.bool s4,.slice a4 n4 c4] 32)) 206 [.bool false,.slice none 0 0,.bool false,.slice none 0 0]).alloc (.cells #[.bool false,.slice none 0 0] 30))
 have HB5:=qh (Bxs.new (((w.alloc (.cells #[.bool s1,.slice a1 n1 c1,.bool s2,.slice a2 n2 c2] 32)).alloc (.cells #[.bool s3,.slice a3 n3 c3,.bool s4,.slice a4 n4 c4] 32)).alloc (.cells #[.bool false,.slice none 0 0,.bool false,.slice none 0 0] 206)) 30 [.bool false,.slice none 0 0]);obtain⟨W,hW⟩:∃ W,W=(((w.alloc (.cells #[.bool s1,.slice a1 n1 c1,.bool s2,.slice a2 n2 c2] 32)).alloc (.cells #[.bool s3,.slice a3 n3 c3,.bool s4,.slice a4 n4 c4] 32)).alloc (.cells #[.bool false,.slice none 0 0,.bool false,.slice none 0 0] 206)).alloc (.cells #[.bool false,.slice none 0 0] 30):=⟨_,rfl⟩;have KG:=qh (show Below w.heap.size w W by rw[hW];exact(((zk.alloc zj _).alloc (by go_size) _).alloc (by go_size) _).alloc (by go_size) _)
 have hWs:w.heap.size+4=W.heap.size:=by rw[hW];simp
 have HB1:=qh (show Bxs W w.heap.size 32 [.bool s1,.slice a1 n1 c1,.bool s2,.slice a2 n2 c2] by rw[hW];exact HB1.o);have HB2:=qh (show Bxs W (w.heap.size+1) 32 [.bool s3,.slice a3 n3 c3,.bool s4,.slice a4 n4 c4] by have h:=HB2.o;simp only[World.size_alloc] at h;rw[hW];exact h);have HB4:=qh (show Bxs W (w.heap.size+1+1) 206 [.bool false,.slice none 0 0,.bool false,.slice none 0 0] by have h:=HB4.o;simp only[World.size_alloc] at h;rw[hW];exact h);have HB5:=qh (show Bxs W (w.heap.size+1+1+1) 30 [.bool false,.slice none 0 0] by have h:=HB5.o;simp only[World.size_alloc] at h;rw[hW];exact h);have HW:=qh hW;have HWS:=qh hWs;clear hW hWs;go_enter Tryz.func163,Tryz.ntmps163
 go_upto_region 1 with (fail)
 rw[show(((w.alloc (.cells #[.bool s1,.slice a1 n1 c1,.bool s2,.slice a2 n2 c2] 32)).alloc (.cells #[.bool s3,.slice a3 n3 c3,.bool s4,.slice a4 n4 c4] 32)).alloc (.cells #[.bool false,.slice none 0 0,.bool false,.slice none 0 0] 206)).alloc (.cells #[.bool false,.slice none 0 0] 30)=W from HW.o.symm];clear HW;have HS:=qh (fun (w':World) (hb:Below W.heap.size W w')=>And.intro (frac_box (HB1.o.bl hb)) (frac_box (HB2.o.bl hb)))
 refine wp_region_fresh 3 (spOf [(1,Sp.made (fracX p q) (fun x w'=>FracI w' w.heap.size (w.heap.size+4) p q x))]) (fun w'=>Below W.heap.size W w') (by kernel_rfl) (by kernel_rfl)
  (spOf_cons (Sp.made_keeps fun x w w' h hb=>h.below hb) spOf_nil) (fun _ _ h hb=>h.trans (hb.mono h.size)) (zk.drew) ?_
 simp only[zx,zy,zv,zw]
 (refine wpF_reads rfl rfl ?_ (fun w' hw'=>?_) ?_;rotate_left;· (have hb':=Has.world hw';(obtain⟨x0,x1,x2,x3,x4,x5⟩:=(HS.o _ hb').1);clear hw';go_simp;try rfl))
 conv=>arg 9;simp only[Act.put,zq0,zq1,zq2]
 refine wpF_spec rfl rfl (fun w' hw'=>?_) ?_
 ·have hb':=hw'.world;go_simp;refine(OX.o w' (KG.o.trans (hb'.mono KG.o.size))).mono ?_;intro e w'' hh;obtain⟨z,rfl,hi,hb⟩:=fracS_ex hh;exact⟨_,rfl,⟨⟨z.1,z.2.1,z.2.2.1,z.2.2.2,rfl⟩,⟨z.1,z.2.1,z.2.2.1,z.2.2.2,rfl,hi.up (by have:=hb'.size;have:=HWS.o;omega)⟩⟩,hb⟩
 rintro _ ⟨xa,rfl⟩
 conv=>arg 9;simp only[Act.put,zq0,zq1,zq2]
 (refine wpF_reads rfl rfl ?_ (fun w' hw'=>?_) ?_;rotate_left;· (have hb':=Has.world hw';(obtain⟨x0,x1,x2,x3,x4,x5⟩:=(HS.o _ hb').2);clear hw';go_simp;try rfl))
 conv=>arg 9;simp only[Act.put,zq0,zq1,zq2]
 refine wpF_nil (fun w1 hb1 hF=>?_);have HXA:=qh (fracI_of (hF 1));have GB:=qh hb1;clear hF hb1;go_wp2_with fail
 have OY1:=qh (OY.o w1 (KG.o.trans (GB.o.mono KG.o.size)));clear OX OY HS;with_reducible refine OY1.o.mono ?_
 intro e w2 hh;obtain⟨yb,rfl,hi,hb⟩:=fracS_ex hh;have HYB:=qh (hi.up (show w.heap.size+4<=w1.heap.size by have:=GB.o.size;have:=HWS.o;omega));have HXA:=qh (HXA.o.below hb);have GB:=qk GB hb;clear hh hi hb OY1;have M1:=qh (HB1.o.below GB.o HB1.o.lt);have M2:=qh (HB2.o.below GB.o HB2.o.lt);have M4:=qh (HB4.o.below GB.o HB4.o.lt);have M5:=qh (HB5.o.below GB.o HB5.o.lt);obtain⟨x0,x1,x2,x3,x4,x5⟩:=frac_box M1.o;obtain⟨y0,y1,y2,y3,y4,y5⟩:=frac_box M2.o
 go_upto_region 2 with (fail)
 obtain⟨V,hV⟩:∃ V,V=((((((((w2.setCell ⟨w.heap.size,0,none⟩ (.bool (decide (p<0)))).setCell ⟨w.heap.size,1,none⟩ (.slice xa.1 (lenB p.natAbs) xa.2.1)).setCell ⟨w.heap.size,2,none⟩ (.bool (decide (q<0)))).setCell ⟨w.heap.size,3,none⟩ (.slice xa.2.2.1 (lenB q.natAbs) xa.2.2.2)).setCell ⟨w.heap.size+1,0,none⟩ (.bool (decide (r<0)))).setCell ⟨w.heap.size+1,1,none⟩ (.slice yb.1 (lenB r.natAbs) yb.2.1)).setCell ⟨w.heap.size+1,2,none⟩ (.bool (decide (t<0)))).setCell ⟨w.heap.size+1,3,none⟩ (.slice yb.2.2.1 (lenB t.natAbs) yb.2.2.2)):=⟨_,rfl⟩;have M1:=qh (show Bxs V w.heap.size 32 [.bool (decide (p<0)),.slice xa.1 (lenB p.natAbs) xa.2.1,.bool (decide (q<0)),.slice xa.2.2.1 (lenB q.natAbs) xa.2.2.2] by rw[hV];exact((((((((M1.o.put 0 _).put 1 _).put 2 _).put 3 _).oz).oz).oz).oz));have M2:=qh (show Bxs V (w.heap.size+1) 32 [.bool (decide (r<0)),.slice yb.1 (lenB r.natAbs) yb.2.1,.bool (decide (t<0)),.slice yb.2.2.1 (lenB t.natAbs) yb.2.2.2] by rw[hV];exact((((((((M2.o.oz).oz).oz).oz).put 0 _).put 1 _).put 2 _).put 3 _));have M4:=qh (show Bxs V (w.heap.size+1+1) 206 [.bool false,.slice none 0 0,.bool false,.slice none 0 0] by rw[hV];exact((((((((M4.o.oz).oz).oz).oz).oz).oz).oz).oz))
 have M5:=qh (show Bxs V (w.heap.size+1+1+1) 30 [.bool false,.slice none 0 0] by rw[hV];exact((((((((M5.o.oz).oz).oz).oz).oz).oz).oz).oz));have HXA:=qh (show FracI V w.heap.size (w.heap.size+4) p q xa by rw[hV];exact((((((((HXA.o.sz).sz).sz).sz).sz).sz).sz).sz));have HYB:=qh (show FracI V w.heap.size (w.heap.size+4) r t yb by rw[hV];exact((((((((HYB.o.sz).sz).sz).sz).sz).sz).sz).sz));have hG:=KG.o.trans (GB.o.mono KG.o.size);have KG:=qh (show Below w.heap.size w V by rw[hV];exact((((((((hG.sc).sc).sc).sc).sc).sc).sc).sc))
 rw[show((((((((w2.setCell ⟨w.heap.size,0,none⟩ (.bool (decide (p<0)))).setCell ⟨w.heap.size,1,none⟩ (.slice xa.1 (lenB p.natAbs) xa.2.1)).setCell ⟨w.heap.size,2,none⟩ (.bool (decide (q<0)))).setCell ⟨w.heap.size,3,none⟩ (.slice xa.2.2.1 (lenB q.natAbs) xa.2.2.2)).setCell ⟨w.heap.size+1,0,none⟩ (.bool (decide (r<0)))).setCell ⟨w.heap.size+1,1,none⟩ (.slice yb.1 (lenB r.natAbs) yb.2.1)).setCell ⟨w.heap.size+1,2,none⟩ (.bool (decide (t<0)))).setCell ⟨w.heap.size+1,3,none⟩ (.slice yb.2.2.1 (lenB t.natAbs) yb.2.2.2))=V from hV.symm];clear hV hG x0 x1 x2 x3 x4 x5 y0 y1 y2 y3 y4 y5 HB1 HB2 HB4 HB5 GB;obtain⟨T1,hT1⟩:∃ T1,T1=p*t:=⟨_,rfl⟩;obtain⟨T2,hT2⟩:∃ T2,T2=r*q:=⟨_,rfl⟩;obtain⟨Lw,hLw⟩:∃ Lw,Lw=q*t:=⟨_,rfl⟩;have HT:=qh (And.intro hT1 (And.intro hT2 hLw));clear hT1 hT2 hLw;have MA:=qh (fun (w':World) (hb:Below V.heap.size V w')=>mul_any (decide (p<0)) xa.1 (lenB p.natAbs) xa.2.1 (dgi p.natAbs) (decide (t<0)) yb.2.2.1 (lenB t.natAbs) yb.2.2.2 (dgi t.natAbs) w' (HXA.o.r1.rd.below hb) (by have:=HL.o;omega) HXA.o.c1 (HYB.o.r2.rd.below hb) (by have:=HL.o;omega) HYB.o.c2);rw[canon_val,canon_val,<- HT.o.1] at MA;have MB:=qh (fun (w':World) (hb:Below V.heap.size V w')=>mul_any (decide (r<0)) yb.1 (lenB r.natAbs) yb.2.1 (dgi r.natAbs) (decide (q<0)) xa.2.2.1 (lenB q.natAbs) xa.2.2.2 (dgi q.natAbs) w' (HYB.o.r1.rd.below hb) (by have:=HL.o;omega) HYB.o.c1 (HXA.o.r2.rd.below hb) (by have:=HL.o;omega) HXA.o.c2);rw[canon_val,canon_val,<- HT.o.2.1] at MB;have MC:=qh (fun (w':World) (hb:Below V.heap.size V w')=>mul_any (decide (q<0)) xa.2.2.1 (lenB q.natAbs) xa.2.2.2 (dgi q.natAbs) (decide (t<0)) yb.2.2.1 (lenB t.natAbs) yb.2.2.2 (dgi t.natAbs) w' (HXA.o.r2.rd.below hb) (by have:=HL.o;omega) HXA.o.c2 (HYB.o.r2.rd.below hb) (by have:=HL.o;omega) HYB.o.c2)
 rw[canon_val,canon_val,<- HT.o.2.2] at MC;have HS:=qh (fun (w':World) (hb:Below V.heap.size V w')=>And.intro (frac_box (M1.o.bl hb)) (frac_box (M2.o.bl hb)))
 refine wp_region_fresh 16 (spOf [(4,Sp.made (fun x:Option Addr=>numV (decide (T1<0)) x (lenB T1.natAbs) (lenB T1.natAbs)) (fun x w'=>Own 128 w' V.heap.size x (lenB T1.natAbs) (lenB T1.natAbs) (dgi T1.natAbs))),(9,Sp.made (fun x:Option Addr=>numV (decide (T2<0)) x (lenB T2.natAbs) (lenB T2.natAbs)) (fun x w'=>Own 128 w' V.heap.size x (lenB T2.natAbs) (lenB T2.natAbs) (dgi T2.natAbs))),(15,Sp.made (fun x:Option Addr=>numV (decide (Lw<0)) x (lenB Lw.natAbs) (lenB Lw.natAbs)) (fun x w'=>Own 128 w' V.heap.size x (lenB Lw.natAbs) (lenB Lw.natAbs) (dgi Lw.natAbs)))]) (fun w'=>Below V.heap.size V w') (by kernel_rfl) (by kernel_rfl)
  (spOf_cons (Sp.made_keeps fun x w w' h hb=>h.below hb) (spOf_cons (Sp.made_keeps fun x w w' h hb=>h.below hb) (spOf_cons (Sp.made_keeps fun x w w' h hb=>h.below hb) spOf_nil))) (fun _ _ h hb=>h.trans (hb.mono h.size)) (zk.drew) ?_
 simp only[zx,zy,zv,zw]
 iterate 4
  (refine wpF_reads rfl rfl ?_ (fun w' hw'=>?_) ?_;rotate_left;· (have hb':=Has.world hw';(obtain⟨x0,x1,x2,x3,x4,x5⟩:=(HS.o _ hb').1;obtain⟨x0,x1,x2,x3,x4,x5⟩:=(HS.o _ hb').2);clear hw';go_simp;try rfl))
  conv=>arg 9;simp only[Act.put,zq0,zq1,zq2]
 (refine wpF_spec rfl rfl (fun w' hw'=>?_) ?_;· (have hb':=Has.world hw';go_simp;((refine(MA.o w' hb').mono ?_;rintro e w'' ⟨a,rfl,ho,-,hb⟩;exact⟨_,rfl,⟨⟨a,rfl⟩,⟨a,rfl,ho.mono hb'.size⟩⟩,hb⟩))))
 rintro _ ⟨ma,rfl⟩
 conv=>arg 9;simp only[Act.put,zq0,zq1,zq2]
 iterate 4
  (refine wpF_reads rfl rfl ?_ (fun w' hw'=>?_) ?_;rotate_left;· (have hb':=Has.world hw';(obtain⟨x0,x1,x2,x3,x4,x5⟩:=(HS.o _ hb').2;obtain⟨x0,x1,x2,x3,x4,x5⟩:=(HS.o _ hb').1);clear hw';go_simp;try rfl))
  conv=>arg 9;simp only[Act.put,zq0,zq1,zq2]
 (refine wpF_spec rfl rfl (fun w' hw'=>?_) ?_;· (have hb':=Has.world hw';go_simp;((refine(MB.o w' hb').mono ?_;rintro e w'' ⟨a,rfl,ho,-,hb⟩;exact⟨_,rfl,⟨⟨a,rfl⟩,⟨a,rfl,ho.mono hb'.size⟩⟩,hb⟩))))
 rintro _ ⟨mb,rfl⟩
 conv=>arg 9;simp only[Act.put,zq0,zq1,zq2]
 iterate 5
  (refine wpF_reads rfl rfl ?_ (fun w' hw'=>?_) ?_;rotate_left;· (have hb':=Has.world hw';(obtain⟨x0,x1,x2,x3,x4,x5⟩:=(HS.o _ hb').1;obtain⟨x0,x1,x2,x3,x4,x5⟩:=(HS.o _ hb').2);clear hw';go_simp;try rfl))
  conv=>arg 9;simp only[Act.put,zq0,zq1,zq2]
 (refine wpF_spec rfl rfl (fun w' hw'=>?_) ?_;· (have hb':=Has.world hw';go_simp;((refine(MC.o w' hb').mono ?_;rintro e w'' ⟨a,rfl,ho,-,hb⟩;exact⟨_,rfl,⟨⟨a,rfl⟩,⟨a,rfl,ho.mono hb'.size⟩⟩,hb⟩))))
 rintro _ ⟨mc,rfl⟩
 conv=>arg 9;simp only[Act.put,zq0,zq1,zq2]
 refine wpF_nil (fun w3 hb3 hF=>?_);have HO:=qh (And.intro (own_num1 (T:=128) (b:=V.heap.size) (s:=decide (T1<0)) (L:=lenB T1.natAbs) (o:=dgi T1.natAbs) (a:=ma) (hF 4)) (And.intro (own_num1 (T:=128) (b:=V.heap.size) (s:=decide (T2<0)) (L:=lenB T2.natAbs) (o:=dgi T2.natAbs) (a:=mb) (hF 9)) (own_num1 (T:=128) (b:=V.heap.size) (s:=decide (Lw<0)) (L:=lenB Lw.natAbs) (o:=dgi Lw.natAbs) (a:=mc) (hF 15))));have N4:=qh (M4.o.bl hb3);have N5:=qh (M5.o.bl hb3);have KG3:=qh (KG.o.trans (hb3.mono KG.o.size));have HVS:=qh (show w.heap.size+4<=V.heap.size by have:=M5.o.lt;omega);clear hF hb3 HS MA MB MC;have z0:=N4.o.ce 0;have z1:=N4.o.ce 1;have z2:=N4.o.ce 2;have z3:=N4.o.ce 3;have zf:=N4.o.fz;have zl:=N4.o.lt;obtain⟨y0,y1,y2,y3⟩:=N5.o.bx.all;go_wp2_with fail
 have hvs:=HVS.o;rw[<- HT.o.1,<- HT.o.2.1,<- HT.o.2.2];have k4:=((((((N4.o.put 0 (.bool (decide (T1<0)))).put 1 (.slice ma (lenB T1.natAbs) (lenB T1.natAbs))).put 2 (.bool (decide (T2<0)))).put 3 (.slice mb (lenB T2.natAbs) (lenB T2.natAbs))).other (a:=⟨w.heap.size+1+1+1,0,none⟩) (by dsimp only;omega) (.bool (decide (Lw<0)))).other (a:=⟨w.heap.size+1+1+1,1,none⟩) (by dsimp only;omega) (.slice mc (lenB Lw.natAbs) (lenB Lw.natAbs)));have k5:=((((((N5.o.other (a:=⟨w.heap.size+1+1,0,none⟩) (by dsimp only;omega) (.bool (decide (T1<0)))).other (a:=⟨w.heap.size+1+1,1,none⟩) (by dsimp only;omega) (.slice ma (lenB T1.natAbs) (lenB T1.natAbs))).other (a:=⟨w.heap.size+1+1,2,none⟩) (by dsimp only;omega) (.bool (decide (T2<0)))).other (a:=⟨w.heap.size+1+1,3,none⟩) (by dsimp only;omega) (.slice mb (lenB T2.natAbs) (lenB T2.natAbs))).put 0 (.bool (decide (Lw<0)))).put 1 (.slice mc (lenB Lw.natAbs) (lenB Lw.natAbs)));refine bodyPost_ret (results_cc rfl _ _ _ _ _ _ _ _ _ _ _ _ rfl k4 rfl k5 Tryz.underlying206 rfl (by kernel_rfl) Tryz.underlying30 rfl (by kernel_rfl)) rfl ⟨ma,mb,mc,rfl,?_,?_,?_,?_⟩
 ·exact((((((HO.o.1.oz).oz).oz).oz).oz).oz).mono (by omega)
 ·exact((((((HO.o.2.1.oz).oz).oz).oz).oz).oz).mono (by omega)
 ·exact((((((HO.o.2.2.oz).oz).oz).oz).oz).oz).mono (by omega)
 ·exact((((((KG3.o.sc).sc).sc).sc).sc).sc)
theorem lenB_mul_le (a b:Nat):lenB (a*b)<=lenB a+lenB b:=by
 refine lenB_le ?_;rw[pw_add];by_cases hb:b=0
 ·subst hb;have:=lt_pw_lenB a;have h2:=lt_pw_lenB 0;exact Nat.mul_pos (by omega) h2
 ·exact Nat.mul_lt_mul_of_lt_of_le (lt_pw_lenB a) (Nat.le_of_lt (lt_pw_lenB b)) (pw_pos _)
theorem make2_any (G:Nat) (cs:Array Value) (T:Int) (s1:Bool) (a1:Option Addr) (n1 c1:Nat) (o1:Nat->Int) (s2:Bool) (a2:Option Addr) (n2 c2:Nat) (o2:Nat->Int) (s3:Bool) (a3:Option Addr) (n3 c3:Nat) (o3:Nat->Int) (s4:Bool) (a4:Option Addr) (n4 c4:Nat) (o4:Nat->Int) (w:World) (x y:Rat)
  (hx:x=valF s1 n1 o1 s2 n2 o2) (hy:y=valF s3 n3 o3 s4 n4 o4)
  (h1:Rd w a1 n1 o1) (hn1:n1<=1000000) (hc1:n1<=c1) (h2:Rd w a2 n2 o2) (hn2:n2<=1000000) (hc2:n2<=c2) (h3:Rd w a3 n3 o3) (hn3:n3<=1000000) (hc3:n3<=c3) (h4:Rd w a4 n4 o4) (hn4:n4<=1000000) (hc4:n4<=c4)
  (hcf:∀ (args:Array Value) (w:World),(callFunc G args).run Tryz.prog w=.ok (.enter G args) w)
  (hT:lenB T.natAbs<=4000000)
  (hF:∀ (m1 m2:Option Addr) (w1:World),Below w.heap.size w w1->Rd w1 m1 (lenB (x.num*(y.den:Int)).natAbs) (dgi (x.num*(y.den:Int)).natAbs)->Rd w1 m2 (lenB (y.num*(x.den:Int)).natAbs) (dgi (y.num*(x.den:Int)).natAbs) ->
   Calls Tryz.prog G (#[numV (decide (x.num*(y.den:Int)<0)) m1 (lenB (x.num*(y.den:Int)).natAbs) (lenB (x.num*(y.den:Int)).natAbs),numV (decide (y.num*(x.den:Int)<0)) m2 (lenB (y.num*(x.den:Int)).natAbs) (lenB (y.num*(x.den:Int)).natAbs)]++cs) w1 (ResN w1 T)) :
  Calls Tryz.prog 103 #[fracV s1 a1 n1 c1 s2 a2 n2 c2,fracV s3 a3 n3 c3 s4 a4 n4 c4,.func (.func G) #[] cs] w (FracR w (Rat.divInt T ((x.den:Int)*(y.den:Int))).num ((Rat.divInt T ((x.den:Int)*(y.den:Int))).den:Int)):=by
 have l1:=valF_len (s1:=s1) (s2:=s2) h1.rng h2.rng;have l2:=valF_len (s1:=s3) (s2:=s4) h3.rng h4.rng;rw[<- hx] at l1;rw[<- hy] at l2
 have HL:=qh (show lenB ((x.den:Int)*(y.den:Int)).natAbs<=4000000 by
  have:=lenB_mul_le (x.den:Int).natAbs (y.den:Int).natAbs;rw[Int.natAbs_mul]
  omega)
 have HD:=qh (show(x.den:Int)*(y.den:Int)≠0 from Int.mul_ne_zero (by have:=x.den_nz;omega) (by have:=y.den_nz;omega));have HB1:=qh (((Bxs.new w 32 [.bool s1,.slice a1 n1 c1,.bool s2,.slice a2 n2 c2]).alloc (.cells #[.bool s3,.slice a3 n3 c3,.bool s4,.slice a4 n4 c4] 32)).alloc (.cells #[.bool false,.slice none 0 0,.bool false,.slice none 0 0] 32));have HB2:=qh ((Bxs.new (w.alloc (.cells #[.bool s1,.slice a1 n1 c1,.bool s2,.slice a2 n2 c2] 32)) 32 [.bool s3,.slice a3 n3 c3,.bool s4,.slice a4 n4 c4]).alloc (.cells #[.bool false,.slice none 0 0,.bool false,.slice none 0 0] 32));have HB3:=qh (Bxs.new ((w.alloc (.cells #[.bool s1,.slice a1 n1 c1,.bool s2,.slice a2 n2 c2] 32)).alloc (.cells #[.bool s3,.slice a3 n3 c3,.bool s4,.slice a4 n4 c4] 32)) 32 [.bool false,.slice none 0 0,.bool false,.slice none 0 0]);obtain⟨W,hW⟩:∃ W,W=((w.alloc (.cells #[.bool s1,.slice a1 n1 c1,.bool s2,.slice a2 n2 c2] 32)).alloc (.cells #[.bool s3,.slice a3 n3 c3,.bool s4,.slice a4 n4 c4] 32)).alloc (.cells #[.bool false,.slice none 0 0,.bool false,.slice none 0 0] 32):=⟨_,rfl⟩;have KG:=qh (show Below w.heap.size w W by rw[hW];exact((zk.alloc zj _).alloc (by go_size) _).alloc (by go_size) _)
 have hWs:w.heap.size+3=W.heap.size:=by rw[hW];simp
 have HB1:=qh (show Bxs W w.heap.size 32 [.bool s1,.slice a1 n1 c1,.bool s2,.slice a2 n2 c2] by rw[hW];exact HB1.o);have HB2:=qh (show Bxs W (w.heap.size+1) 32 [.bool s3,.slice a3 n3 c3,.bool s4,.slice a4 n4 c4] by have h:=HB2.o;simp only[World.size_alloc] at h;rw[hW];exact h);have HB3:=qh (show Bxs W (w.heap.size+1+1) 32 [.bool false,.slice none 0 0,.bool false,.slice none 0 0] by have h:=HB3.o;simp only[World.size_alloc] at h;rw[hW];exact h);have BR:=qh (brought_any s1 a1 n1 c1 o1 s2 a2 n2 c2 o2 s3 a3 n3 c3 o3 s4 a4 n4 c4 o4 W x y hx hy (h1.below KG.o) hn1 hc1 (h2.below KG.o) hn2 hc2 (h3.below KG.o) hn3 hc3 (h4.below KG.o) hn4 hc4);obtain⟨T1,hT1⟩:∃ T1,T1=x.num*(y.den:Int):=⟨_,rfl⟩;obtain⟨T2,hT2⟩:∃ T2,T2=y.num*(x.den:Int):=⟨_,rfl⟩;obtain⟨Lw,hLw⟩:∃ Lw,Lw=(x.den:Int)*(y.den:Int):=⟨_,rfl⟩;rw[<- hT1,<- hT2] at hF;rw[<- hT1,<- hT2,<- hLw] at BR;rw[<- hLw] at HL HD ⊢;have HF:=qh hF;have HT:=qh hT;have HW:=qh hW;have HWS:=qh hWs;clear hF hW hWs hT1 hT2 hLw hx hy h1 h2 h3 h4 l1 l2 hT;go_enter Tryz.func103,Tryz.ntmps103
 go_upto_region 1 with (fail)
 rw[show((w.alloc (.cells #[.bool s1,.slice a1 n1 c1,.bool s2,.slice a2 n2 c2] 32)).alloc (.cells #[.bool s3,.slice a3 n3 c3,.bool s4,.slice a4 n4 c4] 32)).alloc (.cells #[.bool false,.slice none 0 0,.bool false,.slice none 0 0] 32)=W from HW.o.symm];clear HW;obtain⟨x0,x1,x2,x3,x4,x5⟩:=frac_box HB1.o;obtain⟨y0,y1,y2,y3,y4,y5⟩:=frac_box HB2.o;go_wp2_with fail
 with_reducible refine BR.o.mono ?_
 rintro e w2 ⟨m1,m2,m3,rfl,O1,O2,O3,hb⟩
 go_upto_region 2 with (fail)
 obtain⟨V,hV⟩:∃ V,V=(w2.alloc (.cells #[.bool (decide (T1<0)),.slice m1 (lenB T1.natAbs) (lenB T1.natAbs),.bool (decide (T2<0)),.slice m2 (lenB T2.natAbs) (lenB T2.natAbs)] 206)).alloc (.cells #[.bool (decide (Lw<0)),.slice m3 (lenB Lw.natAbs) (lenB Lw.natAbs)] 30):=⟨_,rfl⟩;have M4:=qh (show Bxs V w2.heap.size 206 [.bool (decide (T1<0)),.slice m1 (lenB T1.natAbs) (lenB T1.natAbs),.bool (decide (T2<0)),.slice m2 (lenB T2.natAbs) (lenB T2.natAbs)] by rw[hV];exact(Bxs.new w2 206 [.bool (decide (T1<0)),.slice m1 (lenB T1.natAbs) (lenB T1.natAbs),.bool (decide (T2<0)),.slice m2 (lenB T2.natAbs) (lenB T2.natAbs)]).alloc _);have M5:=qh (show Bxs V (w2.heap.size+1) 30 [.bool (decide (Lw<0)),.slice m3 (lenB Lw.natAbs) (lenB Lw.natAbs)] by have h:=Bxs.new (w2.alloc (.cells #[.bool (decide (T1<0)),.slice m1 (lenB T1.natAbs) (lenB T1.natAbs),.bool (decide (T2<0)),.slice m2 (lenB T2.natAbs) (lenB T2.natAbs)] 206)) 30 [.bool (decide (Lw<0)),.slice m3 (lenB Lw.natAbs) (lenB Lw.natAbs)];simp only[World.size_alloc] at h;rw[hV];exact h)
 have hbV:Below W.heap.size W V:=by rw[hV];exact(hb.alloc hb.size _).alloc (by have:=hb.size;go_size) _
 have M3:=qh (HB3.o.bl hbV);have O1:=qh (show Own 128 V W.heap.size m1 (lenB T1.natAbs) (lenB T1.natAbs) (dgi T1.natAbs) by rw[hV];exact(O1.allocd _).allocd _);have O2:=qh (show Own 128 V W.heap.size m2 (lenB T2.natAbs) (lenB T2.natAbs) (dgi T2.natAbs) by rw[hV];exact(O2.allocd _).allocd _);have O3:=qh (show Own 128 V W.heap.size m3 (lenB Lw.natAbs) (lenB Lw.natAbs) (dgi Lw.natAbs) by rw[hV];exact(O3.allocd _).allocd _);have KG:=qk KG hbV;have KW:=qh hbV.size;obtain⟨b4,hb4⟩:∃ b,b=w2.heap.size:=⟨_,rfl⟩;rw[show(w2.alloc (.cells #[.bool (decide (T1<0)),.slice m1 (lenB T1.natAbs) (lenB T1.natAbs),.bool (decide (T2<0)),.slice m2 (lenB T2.natAbs) (lenB T2.natAbs)] 206)).alloc (.cells #[.bool (decide (Lw<0)),.slice m3 (lenB Lw.natAbs) (lenB Lw.natAbs)] 30)=V from hV.symm];rw[<- hb4] at M4 M5 ⊢;clear hV hbV hb hb4 x0 x1 x2 x3 x4 x5 y0 y1 y2 y3 y4 y5 HB1 HB2 HB3 BR;have HS:=qh (fun (w':World) (hb:Below V.heap.size V w')=>And.intro (M4.o.bl hb) (M5.o.bl hb).bx.all);have HC:=qh (fun (w':World) (hb:Below V.heap.size V w')=>HF.o m1 m2 w' (KG.o.trans (hb.mono KG.o.size)) (O1.o.rd.below hb) (O2.o.rd.below hb))
 refine wp_region_fresh 7 (spOf [(5,Sp.made (fun x:Option Addr=>numV (decide (T<0)) x (lenB T.natAbs) (lenB T.natAbs)) (fun x w'=>Own 128 w' V.heap.size x (lenB T.natAbs) (lenB T.natAbs) (dgi T.natAbs)))]) (fun w'=>Below V.heap.size V w') (by kernel_rfl) (by kernel_rfl)
  (spOf_cons (Sp.made_keeps fun x w w' h hb=>h.below hb) spOf_nil) (fun _ _ h hb=>h.trans (hb.mono h.size)) (zk.drew) ?_
 simp only[zx,zy,zv,zw]
 iterate 5
  (refine wpF_reads rfl rfl ?_ (fun w' hw'=>?_) ?_;rotate_left;· (have hb':=Has.world hw';(have hs:=(HS.o _ hb').1;have x0:=hs.ce 0;have x1:=hs.ce 1;have x2:=hs.ce 2;have x3:=hs.ce 3;have x4:=hs.fz;have x5:=hs.lt);clear hw';go_simp;try rfl))
  conv=>arg 9;simp only[Act.put,zq0,zq1,zq2]
 (refine wpF_spec rfl rfl (fun w' hw'=>?_) ?_;· (have hb':=Has.world hw';go_simp;((refine(HC.o w' hb').mono ?_;rintro e w'' ⟨a,rfl,ho,-,hb⟩;exact⟨_,rfl,⟨⟨a,rfl⟩,⟨a,rfl,ho.mono hb'.size⟩⟩,hb⟩))))
 rintro _ ⟨mt,rfl⟩
 conv=>arg 9;simp only[Act.put,zq0,zq1,zq2]
 (refine wpF_reads rfl rfl ?_ (fun w' hw'=>?_) ?_;rotate_left;· (have hb':=Has.world hw';(obtain⟨x0,x1,x2,x3⟩:=(HS.o _ hb').2);clear hw';go_simp;try rfl))
 conv=>arg 9;simp only[Act.put,zq0,zq1,zq2]
 refine wpF_nil (fun w3 hb3 hF=>?_);have HO:=qh (own_num1 (T:=128) (b:=V.heap.size) (s:=decide (T<0)) (L:=lenB T.natAbs) (o:=dgi T.natAbs) (a:=mt) (hF 5));have LO:=qh (lowest_any T Lw mt m3 (lenB T.natAbs) (lenB Lw.natAbs) w3 HO.o.rd HT.o zj (O3.o.rd.below hb3) HL.o zj HD.o);have M3:=qh (M3.o.bl hb3);have KG:=qk KG hb3;have HWS:=qh (show w.heap.size+3<=w3.heap.size by have:=HWS.o;have:=KW.o;have:=hb3.size;omega);clear hF hb3 HS HC HF HO O1 O2 O3 M4 M5 hcf KW;go_wp2_with fail
 with_reducible refine LO.o.mono ?_
 rintro e w4 ⟨r1,r2,rfl,Q1,Q2,hap,hb⟩;have M3:=qh (M3.o.bl hb);have KG:=qk KG hb;have hvs:=HWS.o;clear hb LO;have z0:=M3.o.ce 0;have z1:=M3.o.ce 1;have z2:=M3.o.ce 2;have z3:=M3.o.ce 3;have zf:=M3.o.fz;have zl:=M3.o.lt;go_wp2_with fail
 refine bodyPost_ret (results_cell rfl _ _ _ _ _ _ _ rfl ((((M3.o.put 0 _).put 1 _).put 2 _).put 3 _) Tryz.underlying32 rfl (by kernel_rfl)) rfl ⟨r1,r2,rfl,?_,?_,hap,?_⟩
 ·exact((((Q1.oz).oz).oz).oz).mono (by omega)
 ·exact((((Q2.oz).oz).oz).oz).mono (by omega)
 ·exact(((KG.o.sc).sc).sc).sc
theorem rat_add (x y:Rat):Rat.divInt (x.num*(y.den:Int)+y.num*(x.den:Int)) ((x.den:Int)*(y.den:Int))=x+y:=by
 rw[Rat.add_def'];rw[<- Rat.divInt_ofNat,Int.natCast_mul]
theorem lenB_succ (m n k:Nat) (hm:lenB m<=k) (hn:lenB n<=k):lenB (m+n)<=k+1:=by
 refine lenB_le ?_;have h1:=Nat.lt_of_lt_of_le (lt_pw_lenB m) (pw_le hm);have h2:=Nat.lt_of_lt_of_le (lt_pw_lenB n) (pw_le hn);rw[pw_succ];omega
theorem lenB_add (a b:Int):lenB (a+b).natAbs<=max (lenB a.natAbs) (lenB b.natAbs)+1 :=
 zm (lenB_mono (Int.natAbs_add_le a b)) (lenB_succ _ _ _ (by omega) (by omega))
theorem addc_any (s1:Bool) (a1:Option Addr) (n1 c1:Nat) (o1:Nat->Int) (s2:Bool) (a2:Option Addr) (n2 c2:Nat) (o2:Nat->Int) (w:World)
  (h1:Rd w a1 n1 o1) (hn1:n1<=100000000) (hc1:n1<=c1) (h2:Rd w a2 n2 o2) (hn2:n2<=100000000) (hc2:n2<=c2) :
  Calls Tryz.prog 169 #[numV s1 a1 n1 c1,numV s2 a2 n2 c2] w (ResN w (valN s1 n1 o1+valN s2 n2 o2)):=by
 have HB1:=qh (((Bxs.new w 30 [.bool s1,.slice a1 n1 c1]).alloc (.cells #[.bool s2,.slice a2 n2 c2] 30)).alloc (.cells #[.bool false,.slice none 0 0] 30));have HB2:=qh ((Bxs.new (w.alloc (.cells #[.bool s1,.slice a1 n1 c1] 30)) 30 [.bool s2,.slice a2 n2 c2]).alloc (.cells #[.bool false,.slice none 0 0] 30));have HB3:=qh (Bxs.new ((w.alloc (.cells #[.bool s1,.slice a1 n1 c1] 30)).alloc (.cells #[.bool s2,.slice a2 n2 c2] 30)) 30 [.bool false,.slice none 0 0]);obtain⟨W,hW⟩:∃ W,W=((w.alloc (.cells #[.bool s1,.slice a1 n1 c1] 30)).alloc (.cells #[.bool s2,.slice a2 n2 c2] 30)).alloc (.cells #[.bool false,.slice none 0 0] 30):=⟨_,rfl⟩;have KG:=qh (show Below w.heap.size w W by rw[hW];exact((zk.alloc zj _).alloc (by go_size) _).alloc (by go_size) _)
 have hWs:w.heap.size+3=W.heap.size:=by rw[hW];simp
 have HB1:=qh (show Bxs W w.heap.size 30 [.bool s1,.slice a1 n1 c1] by rw[hW];exact HB1.o);have HB2:=qh (show Bxs W (w.heap.size+1) 30 [.bool s2,.slice a2 n2 c2] by have h:=HB2.o;simp only[World.size_alloc] at h;rw[hW];exact h);have HB3:=qh (show Bxs W (w.heap.size+1+1) 30 [.bool false,.slice none 0 0] by have h:=HB3.o;simp only[World.size_alloc] at h;rw[hW];exact h);have BR:=qh (add_res s1 a1 n1 c1 o1 s2 a2 n2 c2 o2 W (h1.below KG.o) hn1 hc1 (h2.below KG.o) hn2 hc2);obtain⟨T,hT⟩:∃ T,T=valN s1 n1 o1+valN s2 n2 o2:=⟨_,rfl⟩;rw[<- hT] at BR ⊢;have HW:=qh hW;have HWS:=qh hWs;clear hW hWs h1 h2 hT;go_enter Tryz.func169,Tryz.ntmps169
 go_upto_region 1 with (fail)
 rw[show((w.alloc (.cells #[.bool s1,.slice a1 n1 c1] 30)).alloc (.cells #[.bool s2,.slice a2 n2 c2] 30)).alloc (.cells #[.bool false,.slice none 0 0] 30)=W from HW.o.symm];clear HW;obtain⟨x0,x1,x2,x3⟩:=HB1.o.bx.all;obtain⟨y0,y1,y2,y3⟩:=HB2.o.bx.all;go_wp2_with fail
 with_reducible refine BR.o.mono ?_
 rintro e w2 ⟨m,rfl,O1,hm,hb⟩;have M3:=qh (HB3.o.bl hb);have KG:=qk KG hb;have hvs:=HWS.o;have h2s:=hb.size;clear x0 x1 x2 x3 y0 y1 y2 y3 HB1 HB2 HB3 BR hb;obtain⟨z0,z1,z2,z3⟩:=M3.o.bx.all;go_wp2_with fail
 refine bodyPost_ret (results_cell rfl _ _ _ _ _ _ _ rfl ((M3.o.put 0 _).put 1 _) Tryz.underlying30 rfl (by kernel_rfl)) rfl ⟨m,rfl,?_,hm,?_⟩
 ·exact((O1.oz).oz).mono (by omega)
 ·exact(KG.o.sc).sc
theorem fadd_any (s1:Bool) (a1:Option Addr) (n1 c1:Nat) (o1:Nat->Int) (s2:Bool) (a2:Option Addr) (n2 c2:Nat) (o2:Nat->Int) (s3:Bool) (a3:Option Addr) (n3 c3:Nat) (o3:Nat->Int) (s4:Bool) (a4:Option Addr) (n4 c4:Nat) (o4:Nat->Int) (w:World) (x y:Rat)
  (hx:x=valF s1 n1 o1 s2 n2 o2) (hy:y=valF s3 n3 o3 s4 n4 o4)
  (h1:Rd w a1 n1 o1) (hn1:n1<=1000000) (hc1:n1<=c1) (h2:Rd w a2 n2 o2) (hn2:n2<=1000000) (hc2:n2<=c2) (h3:Rd w a3 n3 o3) (hn3:n3<=1000000) (hc3:n3<=c3) (h4:Rd w a4 n4 o4) (hn4:n4<=1000000) (hc4:n4<=c4) :
  Calls Tryz.prog 109 #[fracV s1 a1 n1 c1 s2 a2 n2 c2,fracV s3 a3 n3 c3 s4 a4 n4 c4] w (FracR w (x+y).num ((x+y).den:Int)):=by
 have l1:=valF_len (s1:=s1) (s2:=s2) h1.rng h2.rng;have l2:=valF_len (s1:=s3) (s2:=s4) h3.rng h4.rng;rw[<- hx] at l1;rw[<- hy] at l2;have hl1:=lenB_mul_le x.num.natAbs (y.den:Int).natAbs;have hl2:=lenB_mul_le y.num.natAbs (x.den:Int).natAbs;rw[<- Int.natAbs_mul] at hl1 hl2;have HB1:=qh (((Bxs.new w 32 [.bool s1,.slice a1 n1 c1,.bool s2,.slice a2 n2 c2]).alloc (.cells #[.bool s3,.slice a3 n3 c3,.bool s4,.slice a4 n4 c4] 32)).alloc (.cells #[.bool false,.slice none 0 0,.bool false,.slice none 0 0] 32));have HB2:=qh ((Bxs.new (w.alloc (.cells #[.bool s1,.slice a1 n1 c1,.bool s2,.slice a2 n2 c2] 32)) 32 [.bool s3,.slice a3 n3 c3,.bool s4,.slice a4 n4 c4]).alloc (.cells #[.bool false,.slice none 0 0,.bool false,.slice none 0 0] 32));have HB3:=qh (Bxs.new ((w.alloc (.cells #[.bool s1,.slice a1 n1 c1,.bool s2,.slice a2 n2 c2] 32)).alloc (.cells #[.bool s3,.slice a3 n3 c3,.bool s4,.slice a4 n4 c4] 32)) 32 [.bool false,.slice none 0 0,.bool false,.slice none 0 0]);obtain⟨W,hW⟩:∃ W,W=((w.alloc (.cells #[.bool s1,.slice a1 n1 c1,.bool s2,.slice a2 n2 c2] 32)).alloc (.cells #[.bool s3,.slice a3 n3 c3,.bool s4,.slice a4 n4 c4] 32)).alloc (.cells #[.bool false,.slice none 0 0,.bool false,.slice none 0 0] 32):=⟨_,rfl⟩;have KG:=qh (show Below w.heap.size w W by rw[hW];exact((zk.alloc zj _).alloc (by go_size) _).alloc (by go_size) _)
 have hWs:w.heap.size+3=W.heap.size:=by rw[hW];simp
 have HB1:=qh (show Bxs W w.heap.size 32 [.bool s1,.slice a1 n1 c1,.bool s2,.slice a2 n2 c2] by rw[hW];exact HB1.o);have HB2:=qh (show Bxs W (w.heap.size+1) 32 [.bool s3,.slice a3 n3 c3,.bool s4,.slice a4 n4 c4] by have h:=HB2.o;simp only[World.size_alloc] at h;rw[hW];exact h);have HB3:=qh (show Bxs W (w.heap.size+1+1) 32 [.bool false,.slice none 0 0,.bool false,.slice none 0 0] by have h:=HB3.o;simp only[World.size_alloc] at h;rw[hW];exact h)
 have BR:=qh (make2_any 169 #[] (x.num*(y.den:Int)+y.num*(x.den:Int)) s1 a1 n1 c1 o1 s2 a2 n2 c2 o2 s3 a3 n3 c3 o3 s4 a4 n4 c4 o4 W x y hx hy (h1.below KG.o) hn1 hc1 (h2.below KG.o) hn2 hc2 (h3.below KG.o) hn3 hc3 (h4.below KG.o) hn4 hc4
  (fun _ _=>rfl)
  (by have:=lenB_add (x.num*(y.den:Int)) (y.num*(x.den:Int));omega)
  (fun m1 m2 w1 _ r1 r2=>by
   have h:=addc_any (decide (x.num*(y.den:Int)<0)) m1 _ (lenB (x.num*(y.den:Int)).natAbs) _ (decide (y.num*(x.den:Int)<0)) m2 _ (lenB (y.num*(x.den:Int)).natAbs) _ w1 r1 (by omega) zj r2 (by omega) zj;rw[canon_val,canon_val] at h
   exact h))
 have hT:Rat.divInt (x.num*(y.den:Int)+y.num*(x.den:Int)) ((x.den:Int)*(y.den:Int))=x+y:=rat_add x y;rw[hT] at BR;obtain⟨t,ht⟩:∃ t,t=x+y:=⟨_,rfl⟩;rw[<- ht] at BR ⊢;have HW:=qh hW;have HWS:=qh hWs;clear hW hWs h1 h2 h3 h4 hT ht hx hy l1 l2 hl1 hl2;go_enter Tryz.func109,Tryz.ntmps109
 go_upto_region 1 with (fail)
 rw[show((w.alloc (.cells #[.bool s1,.slice a1 n1 c1,.bool s2,.slice a2 n2 c2] 32)).alloc (.cells #[.bool s3,.slice a3 n3 c3,.bool s4,.slice a4 n4 c4] 32)).alloc (.cells #[.bool false,.slice none 0 0,.bool false,.slice none 0 0] 32)=W from HW.o.symm];clear HW;obtain⟨x0,x1,x2,x3,x4,x5⟩:=frac_box HB1.o;obtain⟨y0,y1,y2,y3,y4,y5⟩:=frac_box HB2.o;go_wp2_with fail
 with_reducible refine BR.o.mono ?_
 rintro e w4 ⟨r1,r2,rfl,Q1,Q2,hap,hb⟩;have M3:=qh (HB3.o.bl hb);have KG:=qk KG hb;have hvs:=HWS.o;have h2s:=hb.size;clear x0 x1 x2 x3 x4 x5 y0 y1 y2 y3 y4 y5 HB1 HB2 HB3 BR hb;obtain⟨z0,z1,z2,z3,zf,zl⟩:=frac_box M3.o;go_wp2_with fail
 refine bodyPost_ret (results_cell rfl _ _ _ _ _ _ _ rfl ((((M3.o.put 0 _).put 1 _).put 2 _).put 3 _) Tryz.underlying32 rfl (by kernel_rfl)) rfl ⟨r1,r2,rfl,?_,?_,hap,?_⟩
 ·exact((((Q1.oz).oz).oz).oz).mono (by omega)
 ·exact((((Q2.oz).oz).oz).oz).mono (by omega)
 ·exact(((KG.o.sc).sc).sc).sc
theorem field_frac (s1:Bool) (a1:Option Addr) (n1 c1:Nat) (s2:Bool) (a2:Option Addr) (n2 c2:Nat) (w:World):(Instr.field 32 (fracV s1 a1 n1 c1 s2 a2 n2 c2) 0).run Tryz.prog w=.ok (numV s1 a1 n1 c1) w:=by kernel_rfl
theorem fsign_any (s1:Bool) (a1:Option Addr) (n1 c1:Nat) (o1:Nat->Int) (s2:Bool) (a2:Option Addr) (n2 c2:Nat) (o2:Nat->Int) (w:World) (x:Rat) (hx:x=valF s1 n1 o1 s2 n2 o2)
  (h1:Rd w a1 n1 o1) (hn1:n1<=1000000) (hc1:n1<=c1) (h2:Rd w a2 n2 o2) (hn2:n2<=1000000) (hc2:n2<=c2) :
  Calls Tryz.prog 110 #[fracV s1 a1 n1 c1 s2 a2 n2 c2] w fun e w'=>e=.returned (.int .i64 (cmpZ x.num 0))/\Below w.heap.size w w':=by
 have hfar:∀ {a:Option Addr} {n:Nat} {o:Nat->Int},Rd w a n o->0<n->∀ p,a=some p->p.block<w.heap.size:=fun h h0 p hp=>by
  obtain⟨b,off,e,hc⟩:=h.cells h0
  rw[e] at hp;cases hp
  exact block_lt_of_cell (hc 0 h0)
 have l1:=valF_len (s1:=s1) (s2:=s2) h1.rng h2.rng;rw[<- hx] at l1;have HL:=qh (show lenB x.num.natAbs<=1000001 by omega);have HB1:=qh (Bxs.new w 32 [.bool s1,.slice a1 n1 c1,.bool s2,.slice a2 n2 c2]);obtain⟨W,hW⟩:∃ W,W=w.alloc (.cells #[.bool s1,.slice a1 n1 c1,.bool s2,.slice a2 n2 c2] 32):=⟨_,rfl⟩;have KG:=qh (show Below w.heap.size w W by rw[hW];exact zk.alloc zj _);have HB1:=qh (show Bxs W w.heap.size 32 [.bool s1,.slice a1 n1 c1,.bool s2,.slice a2 n2 c2] by rw[hW];exact HB1.o);have OX:=qh (fof2_any s1 a1 n1 c1 o1 s2 a2 n2 c2 o2 W w.heap.size KG.o.size (h1.below KG.o) (by omega) hc1 (hfar h1) (h2.below KG.o) (by omega) hc2 (hfar h2));rw[<- hx] at OX;obtain⟨p,hp⟩:∃ p,p=x.num:=⟨_,rfl⟩;obtain⟨q,hq⟩:∃ q:Int,q=(x.den:Int):=⟨_,rfl⟩;rw[<- hp,<- hq] at OX;rw[<- hp] at HL ⊢;have HW:=qh hW;clear hW h1 h2 l1 hfar hx hp hq;go_enter Tryz.func110,Tryz.ntmps110
 go_upto_region 1 with (fail)
 rw[show w.alloc (.cells #[.bool s1,.slice a1 n1 c1,.bool s2,.slice a2 n2 c2] 32)=W from HW.o.symm];clear HW;obtain⟨x0,x1,x2,x3,x4,x5⟩:=frac_box HB1.o;go_wp2_with fail
 with_reducible refine OX.o.mono ?_
 intro e w2 hh;obtain⟨⟨za,zc,zb,zd⟩,rfl,hi,hb⟩:=fracS_ex hh;have hff:=field_frac (decide (p<0)) za (lenB p.natAbs) zc (decide (q<0)) zb (lenB q.natAbs) zd w2;have SG:=qh (sign_any (decide (p<0)) za (lenB p.natAbs) zc (dgi p.natAbs) w2 hi.r1.rd (by have:=HL.o;omega) hi.c1);rw[canon_val] at SG;have KG:=qk KG hb;clear hh hi hb OX x0 x1 x2 x3 x4 x5 HB1;go_wp2_with fail
 with_reducible refine SG.o.mono ?_
 rintro e w3 ⟨rfl,hb⟩;have KG:=qk KG hb;clear hb SG;go_wp2_with fail
 go_ret;exact⟨rfl,KG.o⟩
theorem okF_canon (x:Rat):okF (decide (x.num<0)) (lenB x.num.natAbs) (dgi x.num.natAbs) (decide ((x.den:Int)<0)) (lenB (x.den:Int).natAbs) (dgi (x.den:Int).natAbs):=by
 refine⟨canon_ok _,canon_ok _,?_,?_⟩
 ·rw[canon_val];exact rat_pos x
 ·rw[canon_val,canon_val];exact rat_gcd x
theorem valF_canon (x:Rat):valF (decide (x.num<0)) (lenB x.num.natAbs) (dgi x.num.natAbs) (decide ((x.den:Int)<0)) (lenB (x.den:Int).natAbs) (dgi (x.den:Int).natAbs)=x:=by
 obtain⟨e1,e2⟩:=valF_ok (okF_canon x);rw[canon_val] at e1 e2;exact Rat.ext e1 (by omega)
theorem mulc_any (bx bz:Nat) (p r:Int) (a1:Option Addr) (c1:Nat) (a2:Option Addr) (n2 c2:Nat) (s2:Bool) (a3:Option Addr) (c3:Nat) (a4:Option Addr) (n4 c4:Nat) (s4:Bool) (ta tb:Bool) (ua ub:Option Addr) (na ca nb cb:Nat) (w:World)
  (hbx:Bxs w bx 32 [.bool (decide (p<0)),.slice a1 (lenB p.natAbs) c1,.bool s2,.slice a2 n2 c2]) (hbz:Bxs w bz 32 [.bool (decide (r<0)),.slice a3 (lenB r.natAbs) c3,.bool s4,.slice a4 n4 c4])
  (h1:Rd w a1 (lenB p.natAbs) (dgi p.natAbs)) (hn1:lenB p.natAbs<=100000000) (hc1:lenB p.natAbs<=c1) (h2:Rd w a3 (lenB r.natAbs) (dgi r.natAbs)) (hn2:lenB r.natAbs<=100000000) (hc2:lenB r.natAbs<=c3) :
  Calls Tryz.prog 104 #[numV ta ua na ca,numV tb ub nb cb,.pointer (some ⟨bx,0,none⟩),.pointer (some ⟨bz,0,none⟩)] w (ResN w (p*r)):=by
 have HB1:=qh (((hbx.alloc (.cells #[.bool ta,.slice ua na ca] 30)).alloc (.cells #[.bool tb,.slice ub nb cb] 30)).alloc (.cells #[.bool false,.slice none 0 0] 30));have HB2:=qh (((hbz.alloc (.cells #[.bool ta,.slice ua na ca] 30)).alloc (.cells #[.bool tb,.slice ub nb cb] 30)).alloc (.cells #[.bool false,.slice none 0 0] 30));have HB3:=qh (Bxs.new ((w.alloc (.cells #[.bool ta,.slice ua na ca] 30)).alloc (.cells #[.bool tb,.slice ub nb cb] 30)) 30 [.bool false,.slice none 0 0]);obtain⟨W,hW⟩:∃ W,W=((w.alloc (.cells #[.bool ta,.slice ua na ca] 30)).alloc (.cells #[.bool tb,.slice ub nb cb] 30)).alloc (.cells #[.bool false,.slice none 0 0] 30):=⟨_,rfl⟩;have KG:=qh (show Below w.heap.size w W by rw[hW];exact((zk.alloc zj _).alloc (by go_size) _).alloc (by go_size) _)
 have hWs:w.heap.size+3=W.heap.size:=by rw[hW];simp
 rw[<- hW] at HB1 HB2;have HB3:=qh (show Bxs W (w.heap.size+1+1) 30 [.bool false,.slice none 0 0] by have h:=HB3.o;simp only[World.size_alloc] at h;rw[hW];exact h);have BR:=qh (mul_any (decide (p<0)) a1 (lenB p.natAbs) c1 (dgi p.natAbs) (decide (r<0)) a3 (lenB r.natAbs) c3 (dgi r.natAbs) W (h1.below KG.o) hn1 hc1 (h2.below KG.o) hn2 hc2);rw[canon_val,canon_val] at BR;obtain⟨T,hT⟩:∃ T,T=p*r:=⟨_,rfl⟩;rw[<- hT] at BR ⊢;have HW:=qh hW;have HWS:=qh hWs;clear hW hWs h1 h2 hT hbx hbz;go_enter Tryz.func104,Tryz.ntmps104
 go_upto_region 1 with (fail)
 rw[show((w.alloc (.cells #[.bool ta,.slice ua na ca] 30)).alloc (.cells #[.bool tb,.slice ub nb cb] 30)).alloc (.cells #[.bool false,.slice none 0 0] 30)=W from HW.o.symm];clear HW;obtain⟨x0,x1,x2,x3,x4,x5⟩:=frac_box HB1.o;obtain⟨y0,y1,y2,y3,y4,y5⟩:=frac_box HB2.o;go_wp2_with fail
 with_reducible refine BR.o.mono ?_
 rintro e w2 ⟨m,rfl,O1,hm,hb⟩;have M3:=qh (HB3.o.bl hb);have KG:=qk KG hb;have hvs:=HWS.o;have h2s:=hb.size;clear x0 x1 x2 x3 x4 x5 y0 y1 y2 y3 y4 y5 HB1 HB2 HB3 BR hb;obtain⟨z0,z1,z2,z3⟩:=M3.o.bx.all;go_wp2_with fail
 refine bodyPost_ret (results_cell rfl _ _ _ _ _ _ _ rfl ((M3.o.put 0 _).put 1 _) Tryz.underlying30 rfl (by kernel_rfl)) rfl ⟨m,rfl,?_,hm,?_⟩
 ·exact((O1.oz).oz).mono (by omega)
 ·exact(KG.o.sc).sc
end Limb
namespace Book
open Go.RowKit Go.Sort Go.FreshG Limb
structure HL where
 a:Option Addr
 n:Nat
 c:Nat
 q:Nat
def HL.row (h:HL):List Value:=held h.a h.n h.c h.q
theorem HL.snoc (L:List HL) (a:Option Addr) (n c q:Nat):(L++[(⟨a,n,c,q⟩:HL)]).flatMap HL.row=L.flatMap HL.row++held a n c q:=by
 rw[List.flatMap_append,List.flatMap_cons,List.flatMap_nil,List.append_nil];rfl
structure BkS (w:World) (b base q:Nat) (L M:List HL):Prop where
 ex:∃ v u,Bk2 w b base q L.length M.length v u (L.flatMap HL.row) (M.flatMap HL.row)/\(L=[]->v=.slice none 0 0)/\(M=[]->u=.slice none 0 0)
 hb:base<=b
 hw:base<=w.heap.size
def rowB (T:TypeId):Bool:=T==59 || T==127 || T==120
structure KeepB (base:Nat) (w w':World):Prop where
 bel:Below base w w'
 rows:∀ (g:Nat) (c:Array Value) (T:TypeId),w.heap[g]?=some (.cells c T (0,0))->rowB T=false->w'.heap[g]?=w.heap[g]?
theorem KeepB.trans {base:Nat} {u v w:World} (h:KeepB base u v) (g:KeepB base v w):KeepB base u w:=⟨h.bel.trans g.bel,fun k c T hk hT=>(g.rows k c T ((h.rows k c T hk hT).trans hk) hT).trans (h.rows k c T hk hT)⟩
theorem KeepB.refl (base:Nat) (w:World):KeepB base w w:=⟨zk,fun _ _ _ _ _=>rfl⟩
theorem KeepB.alloc {base:Nat} {w:World} (hw:base<=w.heap.size) (o:Obj):KeepB base w (w.alloc o):=⟨zk.alloc hw o,fun g c T hg _=>heap_alloc_old w o (by
 exact Classical.byContradiction fun h=>by rw[Array.getElem?_eq_none (by omega)] at hg;cases hg)⟩
theorem Bxs.keepB {base:Nat} {w w':World} {b:Nat} {T:TypeId} {l:List Value} (h:Bxs w b T l) (hk:KeepB base w w') (hT:rowB T=false):Bxs w' b T l:=(hk.rows b _ T h hT).trans h
def KeptS (b base q:Nat) (L M:List HL) (w:World) (e:Ending) (w':World):Prop:=(∃ r,e=.returned r)/\BkS w' b base q L M/\KeepB base w w'
theorem row_type {w:World} {base sz k:Nat} {T:TypeId} {v:Value} {xs:List Value} (h:w.ownsRow base T sz v k xs) {g:Nat} (hg:v.ownBlock=some g):base<=g/\∃ cur,w.heap[g]?=some (.cells cur T (0,0)):=by
 rcases h.2 with ⟨rfl,-⟩ | ⟨g2,cap,cur,rfl,hlo,hg2,-⟩
 ·cases hg
 ·have e:some g2=some g:=hg
  injection e with e
  subst e;exact⟨hlo,cur,hg2⟩
theorem touch_keep {w w':World} {b base q k kt:Nat} {v u:Value} {xs ys:List Value} (hB:Bk2 w b base q k kt v u xs ys) (hb:base<=b) (hw:base<=w.heap.size) {x:Value} (hx:x=v\/x=u) (ht:Touch (fun g=>g=b\/x.ownBlock=some g) w w'):KeepB base w w':=by
 have hty:∀ g,x.ownBlock=some g->base<=g/\∃ cur T,w.heap[g]?=some (.cells cur T (0,0))/\rowB T=true:=fun g hg=>by
  rcases hx with rfl | rfl
  ·obtain⟨h1,cur,h2⟩:=row_type hB.rowL hg;exact⟨h1,cur,_,h2,rfl⟩
  ·obtain⟨h1,cur,h2⟩:=row_type hB.rowT hg;exact⟨h1,cur,_,h2,rfl⟩
 refine⟨⟨ht.os,ht.tape,ht.output,ht.size,fun g hg=>ht.block g (by omega) ?_⟩,fun g c T hg hT=>ht.block g ?_ ?_⟩
 ·rintro(rfl | h)
  ·omega
  ·have:=(hty g h).1;omega
 ·exact Classical.byContradiction fun h=>by rw[Array.getElem?_eq_none (by omega)] at hg;cases hg
 ·rintro(rfl | h)
  ·obtain⟨cur,h2,-⟩:=hB.box;rw[hg] at h2
   have:T=59:=by injection h2 with h2;injection h2
   subst this;exact absurd hT (by decide)
  ·obtain⟨-,cur,T2,h2,h3⟩:=hty g h;rw[hg] at h2
   have:T=T2:=by injection h2 with h2;injection h2
   subst this;rw[hT] at h3
   cases h3
theorem BkS.keepL {w:World} {b base q:Nat} {L M:List HL} (h:BkS w b base q L M) (hk:L.length<=30000) (hq:q<=60000) (a:Option Addr) (n c:Nat) :
  Calls Tryz.prog 222 #[.pointer (some ⟨b,0,none⟩),.slice a n c] w (KeptS b base (q+1) (L++[⟨a,n,c,q⟩]) M w):=by
 obtain⟨v,u,hB,e1,e2⟩:=h.ex;refine(keepL_any b base q L.length M.length v u _ _ a n c w hk hq hB h.hw).mono ?_;rintro e w' ⟨hr,v',hB',-,ht⟩;refine⟨hr,⟨⟨v',u,?_,fun h=>absurd h (by simp),e2⟩,h.hb,zm h.hw ht.size⟩,touch_keep hB h.hb h.hw (Or.inl rfl) ht⟩;rw[HL.snoc,List.length_append];exact hB'
theorem BkS.keepT {w:World} {b base q:Nat} {L M:List HL} (h:BkS w b base q L M) (hk:M.length<=30000) (hq:q<=60000) (a:Option Addr) (n c:Nat) :
  Calls Tryz.prog 43 #[.pointer (some ⟨b,0,none⟩),.slice a n c] w (KeptS b base (q+1) L (M++[⟨a,n,c,q⟩]) w):=by
 obtain⟨v,u,hB,e1,e2⟩:=h.ex;refine(keepT_any b base q L.length M.length v u _ _ a n c w hk hq hB h.hw).mono ?_;rintro e w' ⟨hr,v',hB',-,ht⟩;refine⟨hr,⟨⟨v,v',?_,e1,fun h=>absurd h (by simp)⟩,h.hb,zm h.hw ht.size⟩,touch_keep hB h.hb h.hw (Or.inr rfl) ht⟩;rw[HL.snoc,List.length_append];exact hB'
theorem BkS.alloc {w:World} {b base q:Nat} {L M:List HL} (h:BkS w b base q L M) (o:Obj):BkS (w.alloc o) b base q L M:=by
 obtain⟨v,u,hB,e1,e2⟩:=h.ex;exact⟨⟨v,u,hB.alloc o,e1,e2⟩,h.hb,by rw[World.size_alloc];have:=h.hw;omega⟩
theorem BkS.limbs {w:World} {b base q:Nat} {L M:List HL} (h:BkS w b base q L M) (hk:L.length<=30000) (hq:q<=60000) (a:Option Addr) (n c:Nat) :
  Calls Tryz.prog 176 #[.pointer (some ⟨b,0,none⟩),.slice a n c] w (KeptS b base (q+1) (L++[⟨a,n,c,q⟩]) M w):=by
 have K:=qh (h.keepL hk hq a n c);clear h;go_enter Tryz.func176,Tryz.ntmps176;go_wp2_with fail
 refine K.o.mono ?_;rintro e w1 ⟨⟨r,rfl⟩,h⟩;have H:=qh h;clear h;go_wp2_with fail
 (try simp only[Exit.inBlock,Exit.then])
 refine bodyPost_end (results_none rfl _ _ _) rfl ?_;exact⟨⟨_,rfl⟩,H.o⟩
theorem BkS.num {w:World} {b base q:Nat} {L M:List HL} (h:BkS w b base q L M) (hk:L.length<=30000) (hq:q<=60000) (s:Bool) (a:Option Addr) (n c:Nat) :
  Calls Tryz.prog 116 #[.pointer (some ⟨b,0,none⟩),.agg #[.bool s,.slice a n c]] w (KeptS b base (q+1) (L++[⟨a,n,c,q⟩]) M w):=by
 have K:=qh ((h.alloc (.cells #[.bool s,.slice a n c] 30)).limbs hk hq a n c);have HA:=qh (KeepB.alloc h.hw (.cells #[.bool s,.slice a n c] 30));clear h;go_enter Tryz.func116,Tryz.ntmps116;go_wp2_with fail
 refine K.o.mono ?_;rintro e w1 ⟨⟨r,rfl⟩,h⟩;have H:=qh h;clear h;go_wp2_with fail
 (try simp only[Exit.inBlock,Exit.then])
 refine bodyPost_end (results_none rfl _ _ _) rfl ?_;exact⟨⟨_,rfl⟩,H.o.1,HA.o.trans H.o.2⟩
def fracL (L:List HL) (q:Nat) (a1:Option Addr) (n1 c1:Nat) (a2:Option Addr) (n2 c2:Nat):List HL:=L++[⟨a1,n1,c1,q⟩]++[⟨a2,n2,c2,q+1⟩]
theorem BkS.frac {w:World} {b base q:Nat} {L M:List HL} (h:BkS w b base q L M) (hk:L.length<=29990) (hq:q<=59990) (s1:Bool) (a1:Option Addr) (n1 c1:Nat) (s2:Bool) (a2:Option Addr) (n2 c2:Nat) :
  Calls Tryz.prog 44 #[.pointer (some ⟨b,0,none⟩),.agg #[.bool s1,.slice a1 n1 c1,.bool s2,.slice a2 n2 c2]] w (KeptS b base (q+2) (fracL L q a1 n1 c1 a2 n2 c2) M w):=by
 obtain⟨V,hV⟩:∃ V,V=w.alloc (.cells #[.bool s1,.slice a1 n1 c1,.bool s2,.slice a2 n2 c2] 32):=⟨_,rfl⟩;have HS:=qh (show BkS V b base q L M by rw[hV];exact h.alloc _);have HA:=qh (show KeepB base w V by rw[hV];exact KeepB.alloc h.hw _);have B3:=qh (show Bxs V w.heap.size 32 [.bool s1,.slice a1 n1 c1,.bool s2,.slice a2 n2 c2] by rw[hV];exact Bxs.new w 32 [.bool s1,.slice a1 n1 c1,.bool s2,.slice a2 n2 c2]);have HK:=qh hk;have HQ:=qh hq;have HV:=qh hV;have K:=qh (HS.o.num (by omega) (by omega) s1 a1 n1 c1);clear h hk hq hV;go_enter Tryz.func44,Tryz.ntmps44
 go_upto_region 1 with (fail)
 rw[show w.alloc (.cells #[.bool s1,.slice a1 n1 c1,.bool s2,.slice a2 n2 c2] 32)=V from HV.o.symm];have c0:=B3.o.ce 0;have c1':=B3.o.ce 1;have c2':=B3.o.ce 2;have c3:=B3.o.ce 3;go_wp2_with fail
 refine K.o.mono ?_;rintro e w1 ⟨⟨r,rfl⟩,hs,hk⟩;have HS:=qh hs;have B3:=qh (Bxs.keepB B3.o hk rfl);have HA:=qh (HA.o.trans hk);have K:=qh (hs.num (by rw[List.length_append];have:=HK.o;simp;omega) (by have:=HQ.o;omega) s2 a2 n2 c2);clear hs hk c0 c1' c2' c3;have c0:=B3.o.ce 0;have c1':=B3.o.ce 1;have c2':=B3.o.ce 2;have c3:=B3.o.ce 3;go_wp2_with fail
 refine K.o.mono ?_;rintro e w2 ⟨⟨r,rfl⟩,h⟩;have H:=qh h;clear h c0 c1' c2' c3;go_wp2_with fail
 (try simp only[Exit.inBlock,Exit.then])
 refine bodyPost_end (results_none rfl _ _ _) rfl ?_;exact⟨⟨_,rfl⟩,H.o.1,HA.o.trans H.o.2⟩
end Book
namespace Limb
open Go.RowKit Go.Sort Go.Fresh
theorem fmul_any (s1:Bool) (a1:Option Addr) (n1 c1:Nat) (o1:Nat->Int) (s2:Bool) (a2:Option Addr) (n2 c2:Nat) (o2:Nat->Int) (s3:Bool) (a3:Option Addr) (n3 c3:Nat) (o3:Nat->Int) (s4:Bool) (a4:Option Addr) (n4 c4:Nat) (o4:Nat->Int) (w:World) (x y:Rat)
  (hx:x=valF s1 n1 o1 s2 n2 o2) (hy:y=valF s3 n3 o3 s4 n4 o4)
  (h1:Rd w a1 n1 o1) (hn1:n1<=900000) (hc1:n1<=c1) (h2:Rd w a2 n2 o2) (hn2:n2<=900000) (hc2:n2<=c2) (h3:Rd w a3 n3 o3) (hn3:n3<=900000) (hc3:n3<=c3) (h4:Rd w a4 n4 o4) (hn4:n4<=900000) (hc4:n4<=c4) :
  Calls Tryz.prog 34 #[fracV s1 a1 n1 c1 s2 a2 n2 c2,fracV s3 a3 n3 c3 s4 a4 n4 c4] w (FracR w (x*y).num ((x*y).den:Int)):=by
 have hfar:∀ {a:Option Addr} {n:Nat} {o:Nat->Int},Rd w a n o->0<n->∀ p,a=some p->p.block<w.heap.size:=fun h h0 p hp=>by
  obtain⟨b,off,e,hc⟩:=h.cells h0
  rw[e] at hp;cases hp
  exact block_lt_of_cell (hc 0 h0)
 have OX:=qh (fun (w':World) (hb:Below w.heap.size w w')=>fof2_any s1 a1 n1 c1 o1 s2 a2 n2 c2 o2 w' w.heap.size hb.size (h1.below hb) (by omega) hc1 (hfar h1) (h2.below hb) (by omega) hc2 (hfar h2));have OY:=qh (fun (w':World) (hb:Below w.heap.size w w')=>fof2_any s3 a3 n3 c3 o3 s4 a4 n4 c4 o4 w' w.heap.size hb.size (h3.below hb) (by omega) hc3 (hfar h3) (h4.below hb) (by omega) hc4 (hfar h4));have l1:=valF_len (s1:=s1) (s2:=s2) h1.rng h2.rng;have l2:=valF_len (s1:=s3) (s2:=s4) h3.rng h4.rng;rw[<- hx] at OX l1;rw[<- hy] at OY l2;obtain⟨p,hp⟩:∃ p,p=x.num:=⟨_,rfl⟩;obtain⟨q,hq⟩:∃ q:Int,q=(x.den:Int):=⟨_,rfl⟩;obtain⟨r,hr⟩:∃ r,r=y.num:=⟨_,rfl⟩;obtain⟨t,ht⟩:∃ t:Int,t=(y.den:Int):=⟨_,rfl⟩;rw[<- hp,<- hq] at OX l1;rw[<- hr,<- ht] at OY l2;have HP:=qh (And.intro hp (And.intro hq (And.intro hr ht)));obtain⟨z,hz⟩:∃ z,z=x*y:=⟨_,rfl⟩;rw[<- hz];have HZ:=qh hz;clear hz;have HL:=qh (show(lenB p.natAbs<=900001/\lenB q.natAbs<=900001)/\lenB r.natAbs<=900001/\lenB t.natAbs<=900001 by omega);clear hp hq hr ht hx hy h1 h2 h3 h4 l1 l2 hfar;have HB1:=qh (((Bxs.new w 32 [.bool s1,.slice a1 n1 c1,.bool s2,.slice a2 n2 c2]).alloc (.cells #[.bool s3,.slice a3 n3 c3,.bool s4,.slice a4 n4 c4] 32)).alloc (.cells #[.bool false,.slice none 0 0,.bool false,.slice none 0 0] 32));have HB2:=qh (((Bxs.new (w.alloc (.cells #[.bool s1,.slice a1 n1 c1,.bool s2,.slice a2 n2 c2] 32)) 32 [.bool s3,.slice a3 n3 c3,.bool s4,.slice a4 n4 c4]).alloc (.cells #[.bool false,.slice none 0 0,.bool false,.slice none 0 0] 32)));have HB4:=qh ((Bxs.new ((w.alloc (.cells #[.bool s1,.slice a1 n1 c1,.bool s2,.slice a2 n2 c2] 32)).alloc (.cells #[.bool s3,.slice a3 n3 c3,.bool s4,.slice a4 n4 c4] 32)) 32 [.bool false,.slice none 0 0,.bool false,.slice none 0 0]))
 obtain⟨W,hW⟩:∃ W,W=((w.alloc (.cells #[.bool s1,.slice a1 n1 c1,.bool s2,.slice a2 n2 c2] 32)).alloc (.cells #[.bool s3,.slice a3 n3 c3,.bool s4,.slice a4 n4 c4] 32)).alloc (.cells #[.bool false,.slice none 0 0,.bool false,.slice none 0 0] 32):=⟨_,rfl⟩;have KG:=qh (show Below w.heap.size w W by rw[hW];exact((zk.alloc zj _).alloc (by go_size) _).alloc (by go_size) _)
 have hWs:w.heap.size+3=W.heap.size:=by rw[hW];simp
 have HB1:=qh (show Bxs W w.heap.size 32 [.bool s1,.slice a1 n1 c1,.bool s2,.slice a2 n2 c2] by rw[hW];exact HB1.o);have HB2:=qh (show Bxs W (w.heap.size+1) 32 [.bool s3,.slice a3 n3 c3,.bool s4,.slice a4 n4 c4] by have h:=HB2.o;simp only[World.size_alloc] at h;rw[hW];exact h);have HB4:=qh (show Bxs W (w.heap.size+1+1) 32 [.bool false,.slice none 0 0,.bool false,.slice none 0 0] by have h:=HB4.o;simp only[World.size_alloc] at h;rw[hW];exact h);have HW:=qh hW;have HWS:=qh hWs;clear hW hWs;go_enter Tryz.func34,Tryz.ntmps34
 go_upto_region 1 with (fail)
 rw[show((w.alloc (.cells #[.bool s1,.slice a1 n1 c1,.bool s2,.slice a2 n2 c2] 32)).alloc (.cells #[.bool s3,.slice a3 n3 c3,.bool s4,.slice a4 n4 c4] 32)).alloc (.cells #[.bool false,.slice none 0 0,.bool false,.slice none 0 0] 32)=W from HW.o.symm];clear HW;have HS:=qh (fun (w':World) (hb:Below W.heap.size W w')=>And.intro (frac_box (HB1.o.bl hb)) (frac_box (HB2.o.bl hb)))
 refine wp_region_fresh 3 (spOf [(1,Sp.made (fracX p q) (fun x w'=>FracI w' w.heap.size (w.heap.size+3) p q x))]) (fun w'=>Below W.heap.size W w') (by kernel_rfl) (by kernel_rfl)
  (spOf_cons (Sp.made_keeps fun x w w' h hb=>h.below hb) spOf_nil) (fun _ _ h hb=>h.trans (hb.mono h.size)) (zk.drew) ?_
 simp only[zx,zy,zv,zw]
 (refine wpF_reads rfl rfl ?_ (fun w' hw'=>?_) ?_;rotate_left;· (have hb':=Has.world hw';(obtain⟨x0,x1,x2,x3,x4,x5⟩:=(HS.o _ hb').1);clear hw';go_simp;try rfl))
 conv=>arg 9;simp only[Act.put,zq0,zq1,zq2]
 refine wpF_spec rfl rfl (fun w' hw'=>?_) ?_
 ·have hb':=hw'.world;go_simp;refine(OX.o w' (KG.o.trans (hb'.mono KG.o.size))).mono ?_;intro e w'' hh;obtain⟨z,rfl,hi,hb⟩:=fracS_ex hh;exact⟨_,rfl,⟨⟨z.1,z.2.1,z.2.2.1,z.2.2.2,rfl⟩,⟨z.1,z.2.1,z.2.2.1,z.2.2.2,rfl,hi.up (by have:=hb'.size;have:=HWS.o;omega)⟩⟩,hb⟩
 rintro _ ⟨xa,rfl⟩
 conv=>arg 9;simp only[Act.put,zq0,zq1,zq2]
 (refine wpF_reads rfl rfl ?_ (fun w' hw'=>?_) ?_;rotate_left;· (have hb':=Has.world hw';(obtain⟨x0,x1,x2,x3,x4,x5⟩:=(HS.o _ hb').2);clear hw';go_simp;try rfl))
 conv=>arg 9;simp only[Act.put,zq0,zq1,zq2]
 refine wpF_nil (fun w1 hb1 hF=>?_);have HXA:=qh (fracI_of (hF 1));have GB:=qh hb1;clear hF hb1;go_wp2_with fail
 have OY1:=qh (OY.o w1 (KG.o.trans (GB.o.mono KG.o.size)));clear OX OY HS;with_reducible refine OY1.o.mono ?_
 intro e w2 hh;obtain⟨yb,rfl,hi,hb⟩:=fracS_ex hh;have HYB:=qh (hi.up (show w.heap.size+3<=w1.heap.size by have:=GB.o.size;have:=HWS.o;omega));have HXA:=qh (HXA.o.below hb);have GB:=qk GB hb;clear hh hi hb OY1;have M1:=qh (HB1.o.below GB.o HB1.o.lt);have M2:=qh (HB2.o.below GB.o HB2.o.lt);have M4:=qh (HB4.o.below GB.o HB4.o.lt);obtain⟨x0,x1,x2,x3,x4,x5⟩:=frac_box M1.o;obtain⟨y0,y1,y2,y3,y4,y5⟩:=frac_box M2.o
 go_upto_region 2 with (fail)
 obtain⟨V,hV⟩:∃ V,V=((((((((w2.setCell ⟨w.heap.size,0,none⟩ (.bool (decide (p<0)))).setCell ⟨w.heap.size,1,none⟩ (.slice xa.1 (lenB p.natAbs) xa.2.1)).setCell ⟨w.heap.size,2,none⟩ (.bool (decide (q<0)))).setCell ⟨w.heap.size,3,none⟩ (.slice xa.2.2.1 (lenB q.natAbs) xa.2.2.2)).setCell ⟨w.heap.size+1,0,none⟩ (.bool (decide (r<0)))).setCell ⟨w.heap.size+1,1,none⟩ (.slice yb.1 (lenB r.natAbs) yb.2.1)).setCell ⟨w.heap.size+1,2,none⟩ (.bool (decide (t<0)))).setCell ⟨w.heap.size+1,3,none⟩ (.slice yb.2.2.1 (lenB t.natAbs) yb.2.2.2)):=⟨_,rfl⟩;have M1:=qh (show Bxs V w.heap.size 32 [.bool (decide (p<0)),.slice xa.1 (lenB p.natAbs) xa.2.1,.bool (decide (q<0)),.slice xa.2.2.1 (lenB q.natAbs) xa.2.2.2] by rw[hV];exact((((((((M1.o.put 0 _).put 1 _).put 2 _).put 3 _).oz).oz).oz).oz));have M2:=qh (show Bxs V (w.heap.size+1) 32 [.bool (decide (r<0)),.slice yb.1 (lenB r.natAbs) yb.2.1,.bool (decide (t<0)),.slice yb.2.2.1 (lenB t.natAbs) yb.2.2.2] by rw[hV];exact((((((((M2.o.oz).oz).oz).oz).put 0 _).put 1 _).put 2 _).put 3 _));have M4:=qh (show Bxs V (w.heap.size+1+1) 32 [.bool false,.slice none 0 0,.bool false,.slice none 0 0] by rw[hV];exact((((((((M4.o.oz).oz).oz).oz).oz).oz).oz).oz))
 have HXA:=qh (show FracI V w.heap.size (w.heap.size+3) p q xa by rw[hV];exact((((((((HXA.o.sz).sz).sz).sz).sz).sz).sz).sz));have HYB:=qh (show FracI V w.heap.size (w.heap.size+3) r t yb by rw[hV];exact((((((((HYB.o.sz).sz).sz).sz).sz).sz).sz).sz));have hG:=KG.o.trans (GB.o.mono KG.o.size);have KG:=qh (show Below w.heap.size w V by rw[hV];exact((((((((hG.sc).sc).sc).sc).sc).sc).sc).sc));rw[show((((((((w2.setCell ⟨w.heap.size,0,none⟩ (.bool (decide (p<0)))).setCell ⟨w.heap.size,1,none⟩ (.slice xa.1 (lenB p.natAbs) xa.2.1)).setCell ⟨w.heap.size,2,none⟩ (.bool (decide (q<0)))).setCell ⟨w.heap.size,3,none⟩ (.slice xa.2.2.1 (lenB q.natAbs) xa.2.2.2)).setCell ⟨w.heap.size+1,0,none⟩ (.bool (decide (r<0)))).setCell ⟨w.heap.size+1,1,none⟩ (.slice yb.1 (lenB r.natAbs) yb.2.1)).setCell ⟨w.heap.size+1,2,none⟩ (.bool (decide (t<0)))).setCell ⟨w.heap.size+1,3,none⟩ (.slice yb.2.2.1 (lenB t.natAbs) yb.2.2.2))=V from hV.symm]
 clear hV hG x0 x1 x2 x3 x4 x5 y0 y1 y2 y3 y4 y5 HB1 HB2 HB4 GB
 have MK:=qh (make2_any 104 #[.pointer (some ⟨w.heap.size,0,none⟩),.pointer (some ⟨w.heap.size+1,0,none⟩)] (p*r) (decide (p<0)) xa.1 (lenB p.natAbs) xa.2.1 (dgi p.natAbs) (decide (q<0)) xa.2.2.1 (lenB q.natAbs) xa.2.2.2 (dgi q.natAbs) (decide (r<0)) yb.1 (lenB r.natAbs) yb.2.1 (dgi r.natAbs) (decide (t<0)) yb.2.2.1 (lenB t.natAbs) yb.2.2.2 (dgi t.natAbs) V x y
  (by rw[HP.o.1,HP.o.2.1];exact(valF_canon x).symm) (by rw[HP.o.2.2.1,HP.o.2.2.2];exact(valF_canon y).symm)
  HXA.o.r1.rd (by have:=HL.o;omega) HXA.o.c1 HXA.o.r2.rd (by have:=HL.o;omega) HXA.o.c2 HYB.o.r1.rd (by have:=HL.o;omega) HYB.o.c1 HYB.o.r2.rd (by have:=HL.o;omega) HYB.o.c2
  (fun _ _=>rfl) (by have h:=lenB_mul_le p.natAbs r.natAbs;rw[<- Int.natAbs_mul] at h;have:=HL.o;omega)
  (fun m1 m2 w1 hb _ _=>mulc_any w.heap.size (w.heap.size+1) p r _ _ _ _ _ _ _ _ _ _ _ _ _ _ _ _ _ _ _ _ w1 (M1.o.bl hb) (M2.o.bl hb) (HXA.o.r1.rd.below hb) (by have:=HL.o;omega) HXA.o.c1 (HYB.o.r1.rd.below hb) (by have:=HL.o;omega) HYB.o.c1))
 rw[show Rat.divInt (p*r) ((x.den:Int)*(y.den:Int))=x*y by rw[HP.o.1,HP.o.2.2.1,Rat.mul_def',<- Rat.divInt_ofNat,Int.natCast_mul]] at MK;rw[<- HZ.o] at MK;have HVS:=qh (show w.heap.size+3<=V.heap.size by have:=M4.o.lt;omega);clear HZ HP HL HXA HYB;obtain⟨x0,x1,x2,x3,x4,x5⟩:=frac_box M1.o;obtain⟨y0,y1,y2,y3,y4,y5⟩:=frac_box M2.o;go_wp2_with fail
 with_reducible refine MK.o.mono ?_
 rintro e w4 ⟨r1,r2,rfl,Q1,Q2,hap,hb⟩;have M3:=qh (M4.o.bl hb);have KG:=qk KG hb;have hvs:=HVS.o;have h2s:=hb.size;clear x0 x1 x2 x3 x4 x5 y0 y1 y2 y3 y4 y5 M1 M2 M4 MK hb;obtain⟨z0,z1,z2,z3,zf,zl⟩:=frac_box M3.o;go_wp2_with fail
 refine bodyPost_ret (results_cell rfl _ _ _ _ _ _ _ rfl ((((M3.o.put 0 _).put 1 _).put 2 _).put 3 _) Tryz.underlying32 rfl (by kernel_rfl)) rfl ⟨r1,r2,rfl,?_,?_,hap,?_⟩
 ·exact((((Q1.oz).oz).oz).oz).mono (by omega)
 ·exact((((Q2.oz).oz).oz).oz).mono (by omega)
 ·exact(((KG.o.sc).sc).sc).sc
end Limb
namespace Book
open Go.RowKit Go.Sort Limb
def HLat (L:List HL) (j:Nat):HL:=L.getD j ⟨none,0,0,0⟩
theorem HLat.mem {L:List HL} {j:Nat} (hj:j<L.length):HLat L j∈L:=by
 unfold HLat;rw[List.getD_eq_getElem?_getD,List.getElem?_eq_getElem hj];exact List.getElem_mem hj
theorem flat_get:∀ (L:List HL) (j d:Nat),j<L.length->d<3->(L.flatMap HL.row)[3*j+d]?=((HLat L j).row)[d]?
 | [],_,_,h,_=>absurd h (Nat.not_lt_zero _)
 | h :: r,0,d,_,hd=>by
  rw[List.flatMap_cons,List.getElem?_append_left (by show 3*0+d<3;omega),Nat.mul_zero,Nat.zero_add]
  rfl
 | h :: r,j+1,d,hj,hd=>by
  rw[List.flatMap_cons,List.getElem?_append_right (by show 3<=3*(j+1)+d;omega)]
  have e:3*(j+1)+d-(HL.row h).length=3*j+d:=by show 3*(j+1)+d-3=_;omega
  rw[e,flat_get r j d (by rw[List.length_cons] at hj;omega) hd];rfl
theorem arr_ofL {w:World} {base:Nat} {v:Value} {L:List HL} (h:w.ownsRow base 127 3 v L.length (L.flatMap HL.row)) (h0:0<L.length) :
  ∃ g cap,v=.slice (some ⟨g,0,none⟩) L.length cap/\base<=g/\ArrL (fun j=>(HLat L j).q) w g L.length (fun j=>(HLat L j).a) (fun j=>(HLat L j).n) (fun j=>(HLat L j).c) (fun _=>.slice none 0 0):=by
 obtain⟨g,cap,cur,rfl,hbg,hg,hnc,hcm,hcs,htake⟩:∃ g cap cur,v=.slice (some ⟨g,0,none⟩) L.length cap/\base<=g/\w.heap[g]?=some (.cells cur 127 (0,0))/\L.length<=cap/\cap<=maxLen/\cur.size=cap*3/\cur.toList.take (L.length*3)=L.flatMap HL.row:=by
  rcases h.2 with ⟨_,h⟩ | h
  ·omega
  ·exact h
 have cell:∀ j d,j<L.length->d<3->cur[3*j+d]?=((HLat L j).row)[d]?:=by
  intro j d hj hd;have h:=flat_get L j d hj hd;rw[<- htake,List.getElem?_take,if_pos (by omega),Array.getElem?_toList] at h;exact h
 refine⟨g,cap,rfl,hbg,cap*3,fun i=>cur[i]?.getD undef,⟨cur,hg,hcs,fun i hi=>?_⟩,fun j hj=>⟨by omega,?_,?_,?_⟩⟩
 ·show cur[i]?=some ((cur[i]?).getD undef);rw[Array.getElem?_eq_getElem (by omega)];rfl
 ·have h:=cell j 0 hj (by omega);rw[Nat.add_zero] at h;show(cur[3*j]?).getD undef=_;rw[h];rfl
 ·show(cur[3*j+1]?).getD undef=_;rw[cell j 1 hj (by omega)];rfl
 ·show(cur[3*j+2]?).getD undef=_;rw[cell j 2 hj (by omega)];rfl
theorem arr_ofT {w:World} {base:Nat} {v:Value} {L:List HL} (h:w.ownsRow base 120 3 v L.length (L.flatMap HL.row)) (h0:0<L.length) :
  ∃ g cap,v=.slice (some ⟨g,0,none⟩) L.length cap/\base<=g/\ArrT (fun j=>(HLat L j).q) w g L.length (fun j=>(HLat L j).a) (fun j=>(HLat L j).n) (fun j=>(HLat L j).c) (fun _=>.slice none 0 0):=by
 obtain⟨g,cap,cur,rfl,hbg,hg,hnc,hcm,hcs,htake⟩:∃ g cap cur,v=.slice (some ⟨g,0,none⟩) L.length cap/\base<=g/\w.heap[g]?=some (.cells cur 120 (0,0))/\L.length<=cap/\cap<=maxLen/\cur.size=cap*3/\cur.toList.take (L.length*3)=L.flatMap HL.row:=by
  rcases h.2 with ⟨_,h⟩ | h
  ·omega
  ·exact h
 have cell:∀ j d,j<L.length->d<3->cur[3*j+d]?=((HLat L j).row)[d]?:=by
  intro j d hj hd;have h:=flat_get L j d hj hd;rw[<- htake,List.getElem?_take,if_pos (by omega),Array.getElem?_toList] at h;exact h
 refine⟨g,cap,rfl,hbg,cap*3,fun i=>cur[i]?.getD undef,⟨cur,hg,hcs,fun i hi=>?_⟩,fun j hj=>⟨by omega,?_,?_,?_⟩⟩
 ·show cur[i]?=some ((cur[i]?).getD undef);rw[Array.getElem?_eq_getElem (by omega)];rfl
 ·have h:=cell j 0 hj (by omega);rw[Nat.add_zero] at h;show(cur[3*j]?).getD undef=_;rw[h];rfl
 ·show(cur[3*j+1]?).getD undef=_;rw[cell j 1 hj (by omega)];rfl
 ·show(cur[3*j+2]?).getD undef=_;rw[cell j 2 hj (by omega)];rfl
def Aparts (L:List HL):Prop:=L.Pairwise fun x y=>∀ p q:Addr,x.a=some p->y.a=some q->p.block≠q.block
theorem Aparts.part {L:List HL} (h:Aparts L):Part L.length fun j=>(HLat L j).a:=by
 have key:∀ i j,i<j->i<L.length->j<L.length->∀ p q,(HLat L i).a=some p->(HLat L j).a=some q->p.block≠q.block:=by
  intro i j hij hi hj p q hp hq;have h:=List.pairwise_iff_getElem.1 h i j hi hj hij;unfold HLat at hp hq;rw[List.getD_eq_getElem?_getD,List.getElem?_eq_getElem hi] at hp;rw[List.getD_eq_getElem?_getD,List.getElem?_eq_getElem hj] at hq;exact h p q hp hq
 intro i hi j hj hij p q hp hq
 rcases Nat.lt_or_ge i j with h | h
 ·exact key i j h hi hj p q hp hq
 ·exact fun e=>key j i (by omega) hj hi q p hq hp e.symm
theorem BkS.apart {w:World} {b base q lo:Nat} {L M:List HL} (h:BkS w b base q L M) (h0:0<L.length) (h1:0<M.length) (hk:L.length<=30000) (hkt:M.length<=30000) (hq:∀ x∈L,x.q<=30000) (hqt:∀ x∈M,x.q<=30000)
  (O:HL->Nat->Int) (Ot:HL->Nat->Value) (hO:∀ x∈L,Limb.Own 128 w lo x.a x.n x.c (O x)) (hOt:∀ x∈M,OwnT w lo x.a x.n x.c (Ot x)) (hN:∀ x∈L,x.n<=900000000) (hNt:∀ x∈M,x.n<=100000000)
  (hin:∀ x:HL,x∈L++M->∀ p:Addr,x.a=some p->lo<=p.block/\p.block<base) (hlo:lo<=base) (hD:Aparts L) (hDt:Aparts M) (hDD:∀ x∈L,∀ y∈M,∀ p q:Addr,x.a=some p->y.a=some q->p.block≠q.block) :
  Calls Tryz.prog 20 #[.pointer (some ⟨b,0,none⟩)] w fun e w'=>e=.returned (.bool true)/\Below lo w w':=by
 obtain⟨v,u,hB,-,-⟩:=h.ex;obtain⟨g,cap,rfl,hg,hA⟩:=arr_ofL hB.rowL h0;obtain⟨gt,ct,rfl,hgt,hT⟩:=arr_ofT hB.rowT h1;have hb:=h.hb;have hw:=h.hw
 have inL:∀ q,UA L.length (fun j=>(HLat L j).a) q->lo<=q/\q<base:=by
  rintro q ⟨j,hj,p,hp,rfl⟩;exact hin _ (List.mem_append_left _ (HLat.mem hj)) p hp
 have inM:∀ q,UA M.length (fun j=>(HLat M j).a) q->lo<=q/\q<base:=by
  rintro q ⟨j,hj,p,hp,rfl⟩;exact hin _ (List.mem_append_right _ (HLat.mem hj)) p hp
 refine(apartT_any b g L.length cap gt M.length ct _ _ _ (fun j=>O (HLat L j)) _ _ _ _ (fun j=>Ot (HLat M j)) _ (bkf2 q (.slice (some ⟨g,0,none⟩) L.length cap) (.slice (some ⟨gt,0,none⟩) M.length ct)) w
  { hk:=hk,hkt:=hkt,hν:=fun j hj=>hq _ (HLat.mem hj),hμ:=fun j hj=>hqt _ (HLat.mem hj),hB:=hB.box,f2:=rfl,f6:=rfl,hz:=fun i h1 h2 h3 h4=>?_,hA:=hA,hT:=hT,hO:=fun j hj=>(hO _ (HLat.mem hj)).mono (Nat.zero_le _),hOt:=fun j hj=>(hOt _ (HLat.mem hj)).mono (Nat.zero_le _),hN:=fun j hj=>hN _ (HLat.mem hj),hNt:=fun j hj=>hNt _ (HLat.mem hj),S:=⟨⟨fun h=>by have:=(inL _ h).2;omega,fun h=>by have:=(inL _ h).2;omega⟩,fun h=>by have:=(inL _ h).2;omega⟩,St:=⟨⟨fun h=>by have:=(inM _ h).2;omega,fun h=>by have:=(inM _ h).2;omega⟩,fun h=>by have:=(inM _ h).2;omega⟩,hD:=hD.part,hDt:=hDt.part,DD:=?_,ne:=⟨fun e=>hB.neL (by rw[e];rfl),fun e=>hB.neT (by rw[e];rfl),fun e=>hB.vu g rfl (by rw[e];rfl)⟩ }).mono ?_
 ·unfold bkf2;rw[if_neg (by omega),if_neg h3,if_neg h4]
 ·rintro g2 ⟨i,hi,p,hp,rfl⟩ ⟨j,hj,r,hr,e⟩;exact hDD _ (HLat.mem hi) _ (HLat.mem hj) p r hp hr e.symm
 ·rintro e w' ⟨rfl,hT2⟩;refine⟨rfl,hT2.to_below (by omega) fun k hk2 hu=>?_⟩
  rcases hu with (hu | rfl) | (hu | rfl)
  ·have:=(inL _ hu).1;omega
  ·omega
  ·have:=(inM _ hu).1;omega
  ·omega
open Go.Fresh
theorem fillLimb0 (b:Nat) (w:World) (h:w.cell? ⟨b,2,none⟩=some (.slice none 0 0)):Calls Tryz.prog 46 #[.pointer (some ⟨b,0,none⟩)] w fun e w'=>(∃ v,e=.returned v)/\w'=w:=by
 go_enter Tryz.func46,Tryz.ntmps46;go_wp2_with fail
 go_loopw [2] (fun i wr=>i=.int .i64 0/\wr=w) (fun _ _=>0)
 case atStart=>exact⟨rfl,rfl⟩
 case round =>
  obtain⟨rfl,rfl⟩:=hrel;go_wp2
  (try simp only[Exit.inBlock,Exit.then])
  refine bodyPost_end (results_none rfl _ _ _) rfl ?_;exact⟨⟨_,rfl⟩,rfl⟩
theorem growLimb0 (b:Nat) (w:World) (h:w.cell? ⟨b,2,none⟩=some (.slice none 0 0)):Calls Tryz.prog 58 #[.pointer (some ⟨b,0,none⟩)] w fun e w'=>(∃ v,e=.returned v)/\w'=w:=by
 go_enter Tryz.func58,Tryz.ntmps58;go_wp2_with fail
 go_loopw [2] (fun i wr=>i=.int .i64 0/\wr=w) (fun _ _=>0)
 case atStart=>exact⟨rfl,rfl⟩
 case round =>
  obtain⟨rfl,rfl⟩:=hrel;go_wp2
  (try simp only[Exit.inBlock,Exit.then])
  refine bodyPost_end (results_none rfl _ _ _) rfl ?_;exact⟨⟨_,rfl⟩,rfl⟩
theorem lookLimb0 (b:Nat) (w:World) (h:w.cell? ⟨b,2,none⟩=some (.slice none 0 0)):Calls Tryz.prog 70 #[.pointer (some ⟨b,0,none⟩)] w fun e w'=>e=.returned (.bool true)/\w'=w:=by
 go_enter Tryz.func70,Tryz.ntmps70;go_wp2_with fail
 go_loopw [3] (fun i wr=>i=.int .i64 0/\wr=w) (fun _ _=>0)
 case atStart=>exact⟨rfl,rfl⟩
 case round =>
  obtain⟨rfl,rfl⟩:=hrel;go_wp2;go_ret;exact⟨rfl,rfl⟩
structure BkB0 (w:World) (b vt kt ct:Nat) (At:Nat->Option Addr) (Nt Ct:Nat->Nat) (Ot:Nat->Nat->Value) (μ:Nat->Nat) (f:Nat->Value):Prop where
 hkt:kt<=30000
 hμ:∀ j,j<kt->μ j<=30000
 hB:w.rowIs b 59 13 f
 f6:f 6=.slice (some ⟨vt,0,none⟩) kt ct
 hz:∀ i,0<i->i<13->i≠6->f i=.slice none 0 0
 hT:ArrT μ w vt kt At Nt Ct (fun _=>.slice none 0 0)
 hOt:∀ j,j<kt->OwnT w 0 (At j) (Nt j) (Ct j) (Ot j)
 hNt:∀ j,j<kt->Nt j<=100000000
 St:¬UA kt At b/\¬UA kt At vt
 hDt:Part kt At
 ne:b≠vt
theorem apart0_any (b vt kt ct:Nat) (At:Nat->Option Addr) (Nt Ct:Nat->Nat) (Ot:Nat->Nat->Value) (μ:Nat->Nat) (f:Nat->Value) (w:World) (h:BkB0 w b vt kt ct At Nt Ct Ot μ f) :
  Calls Tryz.prog 20 #[.pointer (some ⟨b,0,none⟩)] w fun e w'=>e=.returned (.bool true)/\Touch (fun g=>UA kt At g\/g=vt) w w':=by
 have HH:=qh h;have HZ:=qh h.hz;have H0:=qh h.hB;have HPT:=qh (show ∀ g,UA kt At g->g<w.heap.size from fun g ⟨j,hj,p,hp,e⟩=>by rw[<- e];exact((h.hOt j hj).blk hp).2.2);have HVT:=qh (show vt<w.heap.size from h.hT.lt);clear h;have N0:=qh (fun i (h1:0<i) (h2:i<13) (h4:i≠6)=>(show w.cell? ⟨b,i,none⟩=some (.slice none 0 0) by rw[H0.o.cell h2,HZ.o i h1 h2 h4]));have FT:=qh (fillT_any b vt kt ct At Nt Ct Ot f μ w HH.o.hkt HH.o.hμ H0.o HH.o.f6 HH.o.hT HH.o.hOt HH.o.hNt HH.o.St HH.o.hDt);go_enter Tryz.func20,Tryz.ntmps20;go_wp2_with fail
 refine(fillByte b w (N0.o 1 (by omega) (by omega) (by omega))).mono ?_;rintro e x ⟨⟨v,rfl⟩,hx⟩;obtain rfl:=hx.symm;go_wp2_with fail
 refine(fillLimb0 b w (N0.o 2 (by omega) (by omega) (by omega))).mono ?_;rintro e x ⟨⟨v,rfl⟩,hx⟩;obtain rfl:=hx.symm;go_wp2_with fail
 refine(fillText b w (N0.o 3 (by omega) (by omega) (by omega))).mono ?_;rintro e x ⟨⟨v,rfl⟩,hx⟩;obtain rfl:=hx.symm;go_wp2_with fail
 refine(fillToken b w (N0.o 4 (by omega) (by omega) (by omega))).mono ?_;rintro e x ⟨⟨v,rfl⟩,hx⟩;obtain rfl:=hx.symm;go_wp2_with fail
 refine(fillNum b w (N0.o 5 (by omega) (by omega) (by omega))).mono ?_;rintro e x ⟨⟨v,rfl⟩,hx⟩;obtain rfl:=hx.symm;go_wp2_with fail
 refine FT.o.mono ?_;rintro e w2 ⟨⟨v,rfl⟩,hT,hO2⟩;have T2:=qh (hT.mono fun g hg=>(Or.inl hg:UA kt At g\/g=vt));have HOT2:=qh hO2;have H2:=qh (H0.o.of_block (hT.block _ H0.o.lt HH.o.St.1));have HT2:=qh (HH.o.hT.keep (hT.block _ HVT.o HH.o.St.2));clear hT hO2 N0 FT;have N2:=qh (fun i (h1:0<i) (h2:i<13) (h4:i≠6)=>(show w2.cell? ⟨b,i,none⟩=some (.slice none 0 0) by rw[H2.o.cell h2,HZ.o i h1 h2 h4]));have GT:=qh (growT_any b vt kt ct At Nt Ct f μ w2 HH.o.hkt HH.o.hμ H2.o HH.o.f6 HT2.o HOT2.o HH.o.hNt HH.o.St HH.o.hDt HH.o.ne);go_wp2_with fail
 refine(fillFactor b w2 (N2.o 7 (by omega) (by omega) (by omega))).mono ?_;rintro e x ⟨⟨v,rfl⟩,hx⟩;obtain rfl:=hx.symm;go_wp2_with fail
 refine(fillNode b w2 (N2.o 8 (by omega) (by omega) (by omega))).mono ?_;rintro e x ⟨⟨v,rfl⟩,hx⟩;obtain rfl:=hx.symm;go_wp2_with fail
 refine(fillFunc b w2 (N2.o 9 (by omega) (by omega) (by omega))).mono ?_;rintro e x ⟨⟨v,rfl⟩,hx⟩;obtain rfl:=hx.symm;go_wp2_with fail
 refine(fillValue b w2 (N2.o 10 (by omega) (by omega) (by omega))).mono ?_;rintro e x ⟨⟨v,rfl⟩,hx⟩;obtain rfl:=hx.symm;go_wp2_with fail
 refine(fillInstr b w2 (N2.o 11 (by omega) (by omega) (by omega))).mono ?_;rintro e x ⟨⟨v,rfl⟩,hx⟩;obtain rfl:=hx.symm;go_wp2_with fail
 refine(fillChunk b w2 (N2.o 12 (by omega) (by omega) (by omega))).mono ?_;rintro e x ⟨⟨v,rfl⟩,hx⟩;obtain rfl:=hx.symm;go_wp2_with fail
 refine(growByte b w2 (N2.o 1 (by omega) (by omega) (by omega))).mono ?_;rintro e x ⟨⟨v,rfl⟩,hx⟩;obtain rfl:=hx.symm;go_wp2_with fail
 refine(growLimb0 b w2 (N2.o 2 (by omega) (by omega) (by omega))).mono ?_;rintro e x ⟨⟨v,rfl⟩,hx⟩;obtain rfl:=hx.symm;go_wp2_with fail
 refine(growText b w2 (N2.o 3 (by omega) (by omega) (by omega))).mono ?_;rintro e x ⟨⟨v,rfl⟩,hx⟩;obtain rfl:=hx.symm;go_wp2_with fail
 refine(growToken b w2 (N2.o 4 (by omega) (by omega) (by omega))).mono ?_;rintro e x ⟨⟨v,rfl⟩,hx⟩;obtain rfl:=hx.symm;go_wp2_with fail
 refine(growNum b w2 (N2.o 5 (by omega) (by omega) (by omega))).mono ?_;rintro e x ⟨⟨v,rfl⟩,hx⟩;obtain rfl:=hx.symm;go_wp2_with fail
 refine GT.o.mono ?_;rintro e w4 ⟨⟨v,rfl⟩,LAt,LCt,hG⟩;have HGT:=qh hG;have T4:=qh (T2.o.trans hG.tch);have H4:=qh (H2.o.of_block (hG.tch.block _ H2.o.lt (fun h=>h.elim HH.o.St.1 (fun h=>HH.o.ne h))));clear hG N2 GT;have N4:=qh (fun i (h1:0<i) (h2:i<13) (h4:i≠6)=>(show w4.cell? ⟨b,i,none⟩=some (.slice none 0 0) by rw[H4.o.cell h2,HZ.o i h1 h2 h4]));have LT:=qh (lookT_any b vt kt ct At LAt Nt Ct LCt f μ w4 HH.o.hkt HH.o.hμ H4.o HH.o.f6 (HGT.o.arr.congr fun j hj=>by rw[if_pos hj]) HGT.o.own (fun j hj=>(HGT.o.lng j hj).1) HH.o.hNt);go_wp2_with fail
 refine(growFactor b w4 (N4.o 7 (by omega) (by omega) (by omega))).mono ?_;rintro e x ⟨⟨v,rfl⟩,hx⟩;obtain rfl:=hx.symm;go_wp2_with fail
 refine(growNode b w4 (N4.o 8 (by omega) (by omega) (by omega))).mono ?_;rintro e x ⟨⟨v,rfl⟩,hx⟩;obtain rfl:=hx.symm;go_wp2_with fail
 refine(growFunc b w4 (N4.o 9 (by omega) (by omega) (by omega))).mono ?_;rintro e x ⟨⟨v,rfl⟩,hx⟩;obtain rfl:=hx.symm;go_wp2_with fail
 refine(growValue b w4 (N4.o 10 (by omega) (by omega) (by omega))).mono ?_;rintro e x ⟨⟨v,rfl⟩,hx⟩;obtain rfl:=hx.symm;go_wp2_with fail
 refine(growInstr b w4 (N4.o 11 (by omega) (by omega) (by omega))).mono ?_;rintro e x ⟨⟨v,rfl⟩,hx⟩;obtain rfl:=hx.symm;go_wp2_with fail
 refine(growChunk b w4 (N4.o 12 (by omega) (by omega) (by omega))).mono ?_;rintro e x ⟨⟨v,rfl⟩,hx⟩;obtain rfl:=hx.symm;go_wp2_with fail
 refine(lookByte b w4 (N4.o 1 (by omega) (by omega) (by omega))).mono ?_;rintro e x ⟨rfl,hx⟩;obtain rfl:=hx.symm;go_wp2_with fail
 refine(lookLimb0 b w4 (N4.o 2 (by omega) (by omega) (by omega))).mono ?_;rintro e x ⟨rfl,hx⟩;obtain rfl:=hx.symm;go_wp2_with fail
 refine(lookText b w4 (N4.o 3 (by omega) (by omega) (by omega))).mono ?_;rintro e x ⟨rfl,hx⟩;obtain rfl:=hx.symm;go_wp2_with fail
 refine(lookToken b w4 (N4.o 4 (by omega) (by omega) (by omega))).mono ?_;rintro e x ⟨rfl,hx⟩;obtain rfl:=hx.symm;go_wp2_with fail
 refine(lookNum b w4 (N4.o 5 (by omega) (by omega) (by omega))).mono ?_;rintro e x ⟨rfl,hx⟩;obtain rfl:=hx.symm;go_wp2_with fail
 refine LT.o.mono ?_;rintro e w6 ⟨rfl,hb⟩;have T6:=qh (T4.o.trans (Touch.of_below hb));have H6:=qh (H4.o.of_block (hb.block _ H4.o.lt));clear hb N4 LT;have N6:=qh (fun i (h1:0<i) (h2:i<13) (h4:i≠6)=>(show w6.cell? ⟨b,i,none⟩=some (.slice none 0 0) by rw[H6.o.cell h2,HZ.o i h1 h2 h4]));go_wp2_with fail
 refine(lookFactor b w6 (N6.o 7 (by omega) (by omega) (by omega))).mono ?_;rintro e x ⟨rfl,hx⟩;obtain rfl:=hx.symm;go_wp2_with fail
 refine(lookNode b w6 (N6.o 8 (by omega) (by omega) (by omega))).mono ?_;rintro e x ⟨rfl,hx⟩;obtain rfl:=hx.symm;go_wp2_with fail
 refine(lookFunc b w6 (N6.o 9 (by omega) (by omega) (by omega))).mono ?_;rintro e x ⟨rfl,hx⟩;obtain rfl:=hx.symm;go_wp2_with fail
 refine(lookValue b w6 (N6.o 10 (by omega) (by omega) (by omega))).mono ?_;rintro e x ⟨rfl,hx⟩;obtain rfl:=hx.symm;go_wp2_with fail
 refine(lookInstr b w6 (N6.o 11 (by omega) (by omega) (by omega))).mono ?_;rintro e x ⟨rfl,hx⟩;obtain rfl:=hx.symm;go_wp2_with fail
 refine(lookChunk b w6 (N6.o 12 (by omega) (by omega) (by omega))).mono ?_;rintro e x ⟨rfl,hx⟩;obtain rfl:=hx.symm;go_wp2_with fail
 go_ret;exact⟨rfl,T6.o⟩
theorem BkS.apart0 {w:World} {b base q lo:Nat} {M:List HL} (h:BkS w b base q [] M) (h1:0<M.length) (hkt:M.length<=30000) (hqt:∀ x∈M,x.q<=30000)
  (Ot:HL->Nat->Value) (hOt:∀ x∈M,OwnT w lo x.a x.n x.c (Ot x)) (hNt:∀ x∈M,x.n<=100000000)
  (hin:∀ x:HL,x∈M->∀ p:Addr,x.a=some p->lo<=p.block/\p.block<base) (hlo:lo<=base) (hDt:Aparts M) :
  Calls Tryz.prog 20 #[.pointer (some ⟨b,0,none⟩)] w fun e w'=>e=.returned (.bool true)/\Below lo w w':=by
 obtain⟨v,u,hB,e1,-⟩:=h.ex;obtain⟨gt,ct,rfl,hgt,hT⟩:=arr_ofT hB.rowT h1;have hv:v=.slice none 0 0:=e1 rfl;have hb:=h.hb;have hw:=h.hw
 have inM:∀ q,UA M.length (fun j=>(HLat M j).a) q->lo<=q/\q<base:=by
  rintro q ⟨j,hj,p,hp,rfl⟩;exact hin _ (HLat.mem hj) p hp
 refine(apart0_any b gt M.length ct _ _ _ (fun j=>Ot (HLat M j)) _ (bkf2 q v (.slice (some ⟨gt,0,none⟩) M.length ct)) w
  { hkt:=hkt,hμ:=fun j hj=>hqt _ (HLat.mem hj),hB:=hB.box,f6:=rfl,hz:=fun i h1 h2 h4=>?_,hT:=hT,hOt:=fun j hj=>(hOt _ (HLat.mem hj)).mono (Nat.zero_le _),hNt:=fun j hj=>hNt _ (HLat.mem hj),St:=⟨fun h=>by have:=(inM _ h).2;omega,fun h=>by have:=(inM _ h).2;omega⟩,hDt:=hDt.part,ne:=fun e=>hB.neT (by rw[e];rfl) }).mono ?_
 ·unfold bkf2;rw[if_neg (by omega),if_neg h4];split
  ·exact hv
  ·rfl
 ·rintro e w' ⟨rfl,hT2⟩;refine⟨rfl,hT2.to_below (by omega) fun k hk2 hu=>?_⟩
  rcases hu with hu | rfl
  ·have:=(inM _ hu).1;omega
  ·omega
end Book
namespace Limb
open Go.RowKit Go.Sort Go.Fresh
theorem one_iff (s:Bool) (n:Nat) (o:Nat->Int) (h:okN s n o) (h0:∀ i,i<n->0<=o i/\o i<=4294967295):valN s n o=1↔s=false/\n=1/\o 0=1:=by
 obtain⟨f1,f2,f3⟩:=of_facts s n o h h0;constructor
 ·intro e;rw[e] at f1 f2 f3
  have hl:lenB (Int.natAbs 1)=1:=by rw[show Int.natAbs 1=1 from rfl,lenB_pos (by decide),show 1/1000000000=0 from rfl,lenB_zero]
  have hn:n=1:=by omega
  subst hn;refine⟨by rw[<- f1];rfl,rfl,?_⟩;rw[f3 0 (by omega)];show((dg 1 0:Nat):Int)=1;rw[dg_zero];rfl
 ·rintro⟨rfl,rfl,e⟩;unfold valN;rw[if_pos h,if_neg (by simp)];show(0:Int)+o 0*((pw 0:Nat):Int)=1;rw[e,pw_zero];rfl
def FracF (w:World) (p q:Int) (e:Ending) (w':World):Prop :=
 ∃ a1 c1 a2 c2,e=.returned (fracV (decide (p<0)) a1 (lenB p.natAbs) c1 (decide (q<0)) a2 (lenB q.natAbs) c2)/\Own 128 w' w.heap.size a1 (lenB p.natAbs) c1 (dgi p.natAbs) /\
  Own 128 w' w.heap.size a2 (lenB q.natAbs) c2 (dgi q.natAbs)/\Below w.heap.size w w'
open Classical in
theorem rone_any (s1:Bool) (a1:Option Addr) (n1 c1:Nat) (o1:Nat->Int) (w:World) (h1:Rd w a1 n1 o1) (hn1:n1<=100000000) (hc1:n1<=c1) (hk:okN s1 n1 o1) :
  Calls Tryz.prog 190 #[numV s1 a1 n1 c1] w fun e w'=>e=.returned (.bool (decide (valN s1 n1 o1=1)))/\Below w.heap.size w w':=by
 have RES:=qh (one_iff s1 n1 o1 hk h1.rng);have HB1:=qh (Bxs.new (w) 30 [.bool s1,.slice a1 n1 c1]);obtain⟨W,hW⟩:∃ W,W=w.alloc (.cells #[.bool s1,.slice a1 n1 c1] 30):=⟨_,rfl⟩;have KG:=qh (show Below w.heap.size w W by rw[hW];exact zk.alloc zj _);have HWS:=qh (show w.heap.size+1<=W.heap.size by rw[hW];simp only[World.size_alloc];omega);have HB1:=qh (show Bxs W (w.heap.size) 30 [.bool s1,.slice a1 n1 c1] by have h:=HB1.o;rw[hW];exact h);have HW:=qh hW;clear hW;have HR:=qh (h1.below KG.o);clear h1 hk
 cases s1 with
 | true =>
  rw[zo (fun h=>by cases (RES.o.1 h).1)];clear RES;go_enter Tryz.func190,Tryz.ntmps190
  go_upto_region 1 with (fail)
  rw[show w.alloc (.cells #[.bool true,.slice a1 n1 c1] 30)=W from HW.o.symm];clear HW;have b1c0:=HB1.o.ce 0;have b1c1:=HB1.o.ce 1;have b1f:=HB1.o.fz;have b1l:=HB1.o.lt;go_wp2_with fail
  clear b1c0 b1c1 b1f b1l;go_ret
  exact⟨rfl,KG.o⟩
 | false =>
  by_cases hn:n1=1
  ·subst hn;obtain⟨b,off,rfl,hc⟩:=HR.o.cells (by omega);have hc:=hc 0 (by omega);rw[show decide (valN false 1 o1=1)=decide (o1 0=1) from decide_eq_decide.2 ⟨fun h=>(RES.o.1 h).2.2,fun h=>RES.o.2 ⟨rfl,rfl,h⟩⟩];clear RES;change _=some (Value.int .u32 (o1 0)) at hc;obtain⟨t,ht⟩:∃ t,t=o1 0:=⟨_,rfl⟩;rw[<- ht] at hc ⊢;clear ht;simp only[Nat.add_zero] at hc;go_enter Tryz.func190,Tryz.ntmps190
   go_upto_region 1 with (fail)
   rw[show w.alloc (.cells #[.bool false,.slice (some ⟨b,off,none⟩) 1 c1] 30)=W from HW.o.symm];clear HW;have b1c0:=HB1.o.ce 0;have b1c1:=HB1.o.ce 1;have b1f:=HB1.o.fz;have b1l:=HB1.o.lt;go_wp2_with fail
   clear b1c0 b1c1 b1f b1l;go_ret;exact⟨by first | rfl | (congr 1;simp),KG.o⟩
  ·rw[zo (fun h=>hn (RES.o.1 h).2.1)];clear RES
   have hn':¬(n1:Int)=1:=by omega
   clear hn;go_enter Tryz.func190,Tryz.ntmps190
   go_upto_region 1 with (fail)
   rw[show w.alloc (.cells #[.bool false,.slice a1 n1 c1] 30)=W from HW.o.symm];clear HW;have b1c0:=HB1.o.ce 0;have b1c1:=HB1.o.ce 1;have b1f:=HB1.o.fz;have b1l:=HB1.o.lt;go_wp2_with fail
   clear b1c0 b1c1 b1f b1l;go_ret;exact⟨rfl,KG.o⟩
open Classical in
theorem rfcheck_any (s1:Bool) (a1:Option Addr) (n1 c1:Nat) (o1:Nat->Int) (s2:Bool) (a2:Option Addr) (n2 c2:Nat) (o2:Nat->Int) (w:World)
  (h1:Rd w a1 n1 o1) (hn1:n1<=5000000) (hc1:n1<=c1) (h2:Rd w a2 n2 o2) (hn2:n2<=5000000) (hc2:n2<=c2) :
  Calls Tryz.prog 149 #[fracV s1 a1 n1 c1 s2 a2 n2 c2] w fun e w'=>e=.returned (.bool (decide (okF s1 n1 o1 s2 n2 o2)))/\Below w.heap.size w w':=by
 have HB:=qh (Bxs.new w 32 [.bool s1,.slice a1 n1 c1,.bool s2,.slice a2 n2 c2]);obtain⟨W,hW⟩:∃ W,W=w.alloc (.cells #[.bool s1,.slice a1 n1 c1,.bool s2,.slice a2 n2 c2] 32):=⟨_,rfl⟩;have HBW:=qh (show Below w.heap.size w W by rw[hW];exact zk.alloc zj _);rw[show w.alloc (.cells (List.toArray [.bool s1,.slice a1 n1 c1,.bool s2,.slice a2 n2 c2]) 32)=W from hW.symm] at HB;have HW:=qh hW;have GB:=qh (Below.refl W.heap.size W);have CK1:=qh (fun (w':World) (hb:Below W.heap.size W w')=>rcheck_any s1 a1 n1 c1 o1 w' (h1.below (HBW.o.trans (hb.mono HBW.o.size))) (by omega));have CK2:=qh (fun (w':World) (hb:Below W.heap.size W w')=>rcheck_any s2 a2 n2 c2 o2 w' (h2.below (HBW.o.trans (hb.mono HBW.o.size))) (by omega));have SG:=qh (fun (w':World) (hb:Below W.heap.size W w')=>rsign_any s2 a2 n2 c2 o2 w' (h2.below (HBW.o.trans (hb.mono HBW.o.size))) (by omega) hc2);have GC:=qh (fun (w':World) (hb:Below W.heap.size W w')=>rgcd_any s1 a1 n1 c1 o1 s2 a2 n2 c2 o2 w' (h1.below (HBW.o.trans (hb.mono HBW.o.size))) (by omega) hc1 (h2.below (HBW.o.trans (hb.mono HBW.o.size))) (by omega) hc2)
 have HGL:=qh (show lenB (Int.gcd (valN s1 n1 o1) (valN s2 n2 o2))<=10000000 from by
  obtain⟨_,_,_,l1,_⟩:=fit_any s1 a1 n1 c1 o1 w h1 (by omega) hc1;obtain⟨_,_,_,l2,_⟩:=fit_any s2 a2 n2 c2 o2 w h2 (by omega) hc2;have:=gcd_len (valN s1 n1 o1) (valN s2 n2 o2)
  omega)
 have HRD:=qh (fun (w':World) (hb:Below W.heap.size W w')=>h2.below (HBW.o.trans (hb.mono HBW.o.size)));clear h1 h2 hW;by_cases k1:okN s1 n1 o1
 ·rw[decide_eq_true k1] at CK1;by_cases k2:okN s2 n2 o2
  ·rw[decide_eq_true k2] at CK2;obtain⟨cs,hcs⟩:∃ cs,cs=cmpZ (valN s2 n2 o2) 0:=⟨_,rfl⟩;rw[<- hcs] at SG;by_cases k3:0<valN s2 n2 o2
   ·have hc3:decide (0<cs)=true:=by rw[hcs,cmpZ_gt k3];rfl
    obtain⟨G,hG⟩:∃ G:Int,G=((Int.gcd (valN s1 n1 o1) (valN s2 n2 o2):Nat):Int):=⟨_,rfl⟩;rw[<- hG] at GC;have HGN:=qh (show lenB G.natAbs<=10000000 by rw[hG,Int.natAbs_natCast];exact HGL.o);have RES:=qh (okF_dec s1 n1 o1 s2 n2 o2 k1 k2 k3);rw[<- hG] at RES;have RO:=qh (fun (w':World) (hb:Below W.heap.size W w')=>rone_any s2 a2 n2 c2 o2 w' (HRD.o w' hb) (by omega) hc2 k2)
    have HD:=qh (show(decide (valN s2 n2 o2=1)=true/\decide (okF s1 n1 o1 s2 n2 o2)=true)\/decide (valN s2 n2 o2=1)=false by
     by_cases h1:valN s2 n2 o2=1
     ·exact Or.inl ⟨decide_eq_true h1,by rw[RES.o,hG,h1];exact decide_eq_true (by rw[Int.gcd_one_right];rfl)⟩
     ·exact Or.inr (zo h1))
    obtain⟨dv,hdv⟩:∃ dv,dv=decide (valN s2 n2 o2=1):=⟨_,rfl⟩;rw[<- hdv] at RO HD;clear hdv hG hcs k1 k2 k3 HRD;go_enter Tryz.func149,Tryz.ntmps149
    go_upto_region 1 with (fail)
    rw[show w.alloc (.cells #[.bool s1,.slice a1 n1 c1,.bool s2,.slice a2 n2 c2] 32)=W from HW.o.symm];obtain⟨x0,x1,x2,x3,x4,x5⟩:=frac_box HB.o;go_wp2_with fail
    refine(CK1.o _ GB.o).mono ?_;rintro e w' ⟨rfl,hb⟩;have GB:=qk GB hb;clear hb x0 x1 x2 x3 x4 x5;obtain⟨x0,x1,x2,x3,x4,x5⟩:=frac_box (HB.o.below GB.o HB.o.lt);obtain⟨w1,rfl⟩:∃ w1,w1=w':=⟨_,rfl⟩;go_wp2_with fail
    refine(CK2.o _ GB.o).mono ?_;rintro e w' ⟨rfl,hb⟩;have GB:=qk GB hb;clear hb x0 x1 x2 x3 x4 x5;obtain⟨x0,x1,x2,x3,x4,x5⟩:=frac_box (HB.o.below GB.o HB.o.lt);obtain⟨w1,rfl⟩:∃ w1,w1=w':=⟨_,rfl⟩;go_wp2_with fail
    refine(SG.o _ GB.o).mono ?_;rintro e w' ⟨rfl,hb⟩;have GB:=qk GB hb;clear hb x0 x1 x2 x3 x4 x5;obtain⟨x0,x1,x2,x3,x4,x5⟩:=frac_box (HB.o.below GB.o HB.o.lt);obtain⟨w1,rfl⟩:∃ w1,w1=w':=⟨_,rfl⟩;go_wp2_with fail
    refine(RO.o _ GB.o).mono ?_;rintro e w' ⟨rfl,hb⟩;have GB:=qk GB hb;clear hb RO x0 x1 x2 x3 x4 x5
    rcases HD.o with ⟨h1,hr⟩ | h1
    ·subst h1;have RES:=qh hr;clear hr HD;go_wp2_with fail
     go_ret;exact⟨by rw[RES.o];rfl,HBW.o.trans (GB.o.mono HBW.o.size)⟩
    ·subst h1;clear HD;obtain⟨x0,x1,x2,x3,x4,x5⟩:=frac_box (HB.o.below GB.o HB.o.lt);go_wp2_with fail
     refine(GC.o _ GB.o).mono ?_;rintro e w2 ⟨x,xc,rfl,ho,hb⟩;have UN:=qh (rone_any (decide (G<0)) x (lenB G.natAbs) xc (dgi G.natAbs) w2 ho.rd (by have:=HGN.o;omega) ho.le (canon_ok G));rw[canon_val] at UN;have GB:=qk GB hb;clear hb ho x0 x1 x2 x3 x4 x5;go_wp2_with fail
     refine UN.o.mono ?_;rintro e w3 ⟨rfl,hb⟩;have GB:=qk GB hb;clear hb UN;go_wp2_with fail
     go_ret;exact⟨by rw[RES.o];first | rfl | (congr 1;simp),HBW.o.trans (GB.o.mono HBW.o.size)⟩
   ·have hc3:decide (0<cs)=false:=by
     rw[hcs];refine zo ?_
     rcases Int.lt_trichotomy (valN s2 n2 o2) 0 with h | h | h
     ·rw[cmpZ_lt h];omega
     ·rw[cmpZ_eq h];omega
     ·exact absurd h k3
    have RES:=qh (show decide (okF s1 n1 o1 s2 n2 o2)=false from zo fun h=>k3 h.2.2.1);clear hcs k1 k2 k3;go_enter Tryz.func149,Tryz.ntmps149
    go_upto_region 1 with (fail)
    rw[show w.alloc (.cells #[.bool s1,.slice a1 n1 c1,.bool s2,.slice a2 n2 c2] 32)=W from HW.o.symm];obtain⟨x0,x1,x2,x3,x4,x5⟩:=frac_box HB.o;go_wp2_with fail
    refine(CK1.o _ GB.o).mono ?_;rintro e w' ⟨rfl,hb⟩;have GB:=qk GB hb;clear hb x0 x1 x2 x3 x4 x5;obtain⟨x0,x1,x2,x3,x4,x5⟩:=frac_box (HB.o.below GB.o HB.o.lt);obtain⟨w1,rfl⟩:∃ w1,w1=w':=⟨_,rfl⟩;go_wp2_with fail
    refine(CK2.o _ GB.o).mono ?_;rintro e w' ⟨rfl,hb⟩;have GB:=qk GB hb;clear hb x0 x1 x2 x3 x4 x5;obtain⟨x0,x1,x2,x3,x4,x5⟩:=frac_box (HB.o.below GB.o HB.o.lt);obtain⟨w1,rfl⟩:∃ w1,w1=w':=⟨_,rfl⟩;go_wp2_with fail
    refine(SG.o _ GB.o).mono ?_;rintro e w' ⟨rfl,hb⟩;have GB:=qk GB hb;clear hb x0 x1 x2 x3 x4 x5;obtain⟨x0,x1,x2,x3,x4,x5⟩:=frac_box (HB.o.below GB.o HB.o.lt);obtain⟨w1,rfl⟩:∃ w1,w1=w':=⟨_,rfl⟩;go_wp2_with fail
    go_ret;exact⟨by rw[RES.o];rfl,HBW.o.trans (GB.o.mono HBW.o.size)⟩
  ·rw[zo k2] at CK2;have RES:=qh (show decide (okF s1 n1 o1 s2 n2 o2)=false from zo fun h=>k2 h.2.1);clear k1 k2;go_enter Tryz.func149,Tryz.ntmps149
   go_upto_region 1 with (fail)
   rw[show w.alloc (.cells #[.bool s1,.slice a1 n1 c1,.bool s2,.slice a2 n2 c2] 32)=W from HW.o.symm];obtain⟨x0,x1,x2,x3,x4,x5⟩:=frac_box HB.o;go_wp2_with fail
   refine(CK1.o _ GB.o).mono ?_;rintro e w' ⟨rfl,hb⟩;have GB:=qk GB hb;clear hb x0 x1 x2 x3 x4 x5;obtain⟨x0,x1,x2,x3,x4,x5⟩:=frac_box (HB.o.below GB.o HB.o.lt);obtain⟨w1,rfl⟩:∃ w1,w1=w':=⟨_,rfl⟩;go_wp2_with fail
   refine(CK2.o _ GB.o).mono ?_;rintro e w' ⟨rfl,hb⟩;have GB:=qk GB hb;clear hb x0 x1 x2 x3 x4 x5;obtain⟨x0,x1,x2,x3,x4,x5⟩:=frac_box (HB.o.below GB.o HB.o.lt);obtain⟨w1,rfl⟩:∃ w1,w1=w':=⟨_,rfl⟩;go_wp2_with fail
   go_ret;exact⟨by rw[RES.o];rfl,HBW.o.trans (GB.o.mono HBW.o.size)⟩
 ·rw[zo k1] at CK1;have RES:=qh (show decide (okF s1 n1 o1 s2 n2 o2)=false from zo fun h=>k1 h.1);clear k1;go_enter Tryz.func149,Tryz.ntmps149
  go_upto_region 1 with (fail)
  rw[show w.alloc (.cells #[.bool s1,.slice a1 n1 c1,.bool s2,.slice a2 n2 c2] 32)=W from HW.o.symm];obtain⟨x0,x1,x2,x3,x4,x5⟩:=frac_box HB.o;go_wp2_with fail
  refine(CK1.o _ GB.o).mono ?_;rintro e w' ⟨rfl,hb⟩;have GB:=qk GB hb;clear hb x0 x1 x2 x3 x4 x5;obtain⟨x0,x1,x2,x3,x4,x5⟩:=frac_box (HB.o.below GB.o HB.o.lt);obtain⟨w1,rfl⟩:∃ w1,w1=w':=⟨_,rfl⟩;go_wp2_with fail
  go_ret;exact⟨by rw[RES.o];rfl,HBW.o.trans (GB.o.mono HBW.o.size)⟩
open Classical in
theorem rfof_any (n:Int) (w:World) (h1:-9223372036854775808<=n) (h2:n<=9223372036854775807) :
  Calls Tryz.prog 93 #[.int .i64 n] w (FracF w n 1):=by
 obtain⟨one,hone⟩:∃ one:Int,one=1:=⟨_,rfl⟩;have OF1:=qh (fun (w':World)=>rof64_any n w' h1 h2);have OF2:=qh (show ∀ w',Calls Tryz.prog 153 #[.int .i64 1] w' (ResF w' one) from fun w'=>by rw[hone];exact rof64_any 1 w' (by omega) (by omega));rw[<- hone];have HB:=qh (Bxs.new w 32 [.bool false,.slice none 0 0,.bool false,.slice none 0 0]);have HBW:=qh (show Below w.heap.size w (w.alloc (.cells #[.bool false,.slice none 0 0,.bool false,.slice none 0 0] 32)) from zk.alloc zj _);obtain⟨W,hW⟩:∃ W,W=w.alloc (.cells #[.bool false,.slice none 0 0,.bool false,.slice none 0 0] 32):=⟨_,rfl⟩;rw[show w.alloc (.cells (List.toArray [.bool false,.slice none 0 0,.bool false,.slice none 0 0]) 32)=W from hW.symm] at HB;rw[<- hW] at HBW;have HW:=qh hW;clear h1 h2 hone hW;go_enter Tryz.func93,Tryz.ntmps93
 go_upto_region 1 with (fail)
 rw[show w.alloc (.cells #[.bool false,.slice none 0 0,.bool false,.slice none 0 0] 32)=W from HW.o.symm];go_wp2_with fail
 refine(OF1.o _).mono ?_;rintro e w1 ⟨a1,d1,rfl,ho1,hb1⟩;have HO1:=qh ho1;have GB:=qh hb1;clear ho1 hb1;go_wp2_with fail
 refine(OF2.o _).mono ?_;rintro e w2 ⟨a2,d2,rfl,ho2,hb2⟩;have HO1:=qh (HO1.o.below hb2);have HO2:=qh (ho2.mono GB.o.size);have GB:=qk GB hb2;have HB2:=qh (HB.o.below GB.o HB.o.lt);clear ho2 hb2;obtain⟨x0,x1,x2,x3,x4,x5⟩:=frac_box HB2.o;go_wp2_with fail
 have hlt:=HB.o.lt;have hG:=HBW.o.trans (GB.o.mono HBW.o.size);refine bodyPost_ret (results_cell rfl _ _ _ _ _ _ _ rfl ((((HB2.o.put 0 _).put 1 _).put 2 _).put 3 _) Tryz.underlying32 rfl (by kernel_rfl)) rfl ⟨a1,d1,a2,d2,rfl,?_,?_,?_⟩
 ·exact((((HO1.o.oz).oz).oz).oz).mono (by omega)
 ·exact((((HO2.o.oz).oz).oz).oz).mono (by omega)
 ·exact(((hG.sc).sc).sc).sc
open Classical in
theorem rfit_ok (s1:Bool) (a1:Option Addr) (n1 c1:Nat) (o1:Nat->Int) (s2:Bool) (a2:Option Addr) (n2 c2:Nat) (o2:Nat->Int) (w:World) (B0:Nat) (hB0:B0<=w.heap.size)
  (h1:Rd w a1 n1 o1) (hn1:n1<=5000000) (hc1:n1<=c1) (f1:0<n1->∀ p,a1=some p->p.block<B0) (h2:Rd w a2 n2 o2) (hn2:n2<=5000000) (hc2:n2<=c2) (f2:0<n2->∀ p,a2=some p->p.block<B0) (hk:okF s1 n1 o1 s2 n2 o2) :
  Calls Tryz.prog 151 #[fracV s1 a1 n1 c1 s2 a2 n2 c2] w (FracS w B0 (valN s1 n1 o1) (valN s2 n2 o2)):=by
 have CK:=qh (fun (w':World) (hb:Below w.heap.size w w')=>rfcheck_any s1 a1 n1 c1 o1 s2 a2 n2 c2 o2 w' (h1.below hb) hn1 hc1 (h2.below hb) hn2 hc2);rw[decide_eq_true hk] at CK;obtain⟨t1,t2,t3⟩:=of_facts s1 n1 o1 hk.1 h1.rng;obtain⟨u1,u2,u3⟩:=of_facts s2 n2 o2 hk.2.1 h2.rng
 generalize valN s1 n1 o1=z1 at t1 t2 t3 ⊢
 generalize valN s2 n2 o2=z2 at u1 u2 u3 ⊢
 have HR:=qh (And.intro (And.intro h1 f1) (And.intro h2 f2));have HT:=qh (And.intro (And.intro t1 (And.intro t2 t3)) (And.intro u1 (And.intro u2 u3)));clear hk h1 h2 f1 f2 t1 t2 t3 u1 u2 u3;have HB:=qh ((Bxs.new w 32 [.bool s1,.slice a1 n1 c1,.bool s2,.slice a2 n2 c2]).alloc (.cells #[.bool false,.slice none 0 0,.bool false,.slice none 0 0] 32));have HBR:=qh (Bxs.new (w.alloc (.cells #[.bool s1,.slice a1 n1 c1,.bool s2,.slice a2 n2 c2] 32)) 32 [.bool false,.slice none 0 0,.bool false,.slice none 0 0]);obtain⟨W,hW⟩:∃ W,W=(w.alloc (.cells #[.bool s1,.slice a1 n1 c1,.bool s2,.slice a2 n2 c2] 32)).alloc (.cells #[.bool false,.slice none 0 0,.bool false,.slice none 0 0] 32):=⟨_,rfl⟩;have HBW:=qh (show Below w.heap.size w W by rw[hW];exact(zk.alloc zj _).alloc (by simp) _);rw[show(w.alloc (.cells (List.toArray [.bool s1,.slice a1 n1 c1,.bool s2,.slice a2 n2 c2]) 32)).alloc (.cells #[.bool false,.slice none 0 0,.bool false,.slice none 0 0] 32)=W from hW.symm] at HB;rw[show(w.alloc (.cells #[.bool s1,.slice a1 n1 c1,.bool s2,.slice a2 n2 c2] 32)).alloc (.cells (List.toArray [.bool false,.slice none 0 0,.bool false,.slice none 0 0]) 32)=W from hW.symm,World.size_alloc] at HBR;have HW:=qh hW;clear hW;go_enter Tryz.func151,Tryz.ntmps151
 go_upto_region 1 with (fail)
 rw[show(w.alloc (.cells #[.bool s1,.slice a1 n1 c1,.bool s2,.slice a2 n2 c2] 32)).alloc (.cells #[.bool false,.slice none 0 0,.bool false,.slice none 0 0] 32)=W from HW.o.symm];obtain⟨x0,x1,x2,x3,x4,x5⟩:=frac_box HB.o;go_wp2_with fail
 refine(CK.o _ HBW.o).mono ?_;rintro e w1 ⟨rfl,hb1⟩;have GB:=qh hb1;have HB1:=qh (HB.o.bl hb1);have HR1:=qh (HBR.o.bl hb1);clear hb1 CK x0 x1 x2 x3 x4 x5;obtain⟨x0,x1,x2,x3,x4,x5⟩:=frac_box HB1.o;obtain⟨y0,y1,y2,y3,y4,y5⟩:=frac_box HR1.o;go_wp2_with fail
 have hlt:=HB.o.lt;have hlt2:=HBR.o.lt;have hG:=HBW.o.trans (GB.o.mono HBW.o.size);refine bodyPost_ret (results_cell rfl _ _ _ _ _ _ _ rfl ((((HR1.o.put 0 _).put 1 _).put 2 _).put 3 _) Tryz.underlying32 rfl (by kernel_rfl)) rfl ⟨a1,c1,a2,c2,?_,?_,?_,?_,?_,?_⟩
 ·rw[HT.o.1.1,HT.o.1.2.1,HT.o.2.1,HT.o.2.2.1];rfl
 ·rw[HT.o.1.2.1];have r:RdS w1 B0 (w.heap.size+2) a1 n1 (dgi z1.natAbs):=⟨(HR.o.1.1.congr HT.o.1.2.2).below hG,fun h0 p hp=>Or.inl (HR.o.1.2 h0 p hp)⟩;exact((((r.sz).sz).sz).sz).up (by omega)
 ·rw[HT.o.1.2.1];exact hc1
 ·rw[HT.o.2.2.1];have r:RdS w1 B0 (w.heap.size+2) a2 n2 (dgi z2.natAbs):=⟨(HR.o.2.1.congr HT.o.2.2.2).below hG,fun h0 p hp=>Or.inl (HR.o.2.2 h0 p hp)⟩;exact((((r.sz).sz).sz).sz).up (by omega)
 ·rw[HT.o.2.2.1];exact hc2
 ·exact(((hG.sc).sc).sc).sc
open Classical in
theorem rfit_not (s1:Bool) (a1:Option Addr) (n1 c1:Nat) (o1:Nat->Int) (s2:Bool) (a2:Option Addr) (n2 c2:Nat) (o2:Nat->Int) (w:World) (B0:Nat)
  (h1:Rd w a1 n1 o1) (hn1:n1<=5000000) (hc1:n1<=c1) (h2:Rd w a2 n2 o2) (hn2:n2<=5000000) (hc2:n2<=c2) (hk:¬okF s1 n1 o1 s2 n2 o2) :
  Calls Tryz.prog 151 #[fracV s1 a1 n1 c1 s2 a2 n2 c2] w (FracS w B0 0 1):=by
 have CK:=qh (fun (w':World) (hb:Below w.heap.size w w')=>rfcheck_any s1 a1 n1 c1 o1 s2 a2 n2 c2 o2 w' (h1.below hb) hn1 hc1 (h2.below hb) hn2 hc2);rw[zo hk] at CK;obtain⟨one,hone⟩:∃ one:Int,one=1:=⟨_,rfl⟩;obtain⟨zer,hzer⟩:∃ zer:Int,zer=0:=⟨_,rfl⟩;have OF:=qh (fun (w':World)=>rfof_any 0 w' (by omega) (by omega));rw[<- hone,<- hzer];have OF:=qh (show ∀ w',Calls Tryz.prog 93 #[.int .i64 0] w' (FracF w' zer one) from fun w'=>by rw[hone,hzer];exact OF.o w');clear hk h1 h2 hone hzer;have HB:=qh ((Bxs.new w 32 [.bool s1,.slice a1 n1 c1,.bool s2,.slice a2 n2 c2]).alloc (.cells #[.bool false,.slice none 0 0,.bool false,.slice none 0 0] 32));have HBR:=qh (Bxs.new (w.alloc (.cells #[.bool s1,.slice a1 n1 c1,.bool s2,.slice a2 n2 c2] 32)) 32 [.bool false,.slice none 0 0,.bool false,.slice none 0 0]);obtain⟨W,hW⟩:∃ W,W=(w.alloc (.cells #[.bool s1,.slice a1 n1 c1,.bool s2,.slice a2 n2 c2] 32)).alloc (.cells #[.bool false,.slice none 0 0,.bool false,.slice none 0 0] 32):=⟨_,rfl⟩;have HBW:=qh (show Below w.heap.size w W by rw[hW];exact(zk.alloc zj _).alloc (by simp) _);rw[show(w.alloc (.cells (List.toArray [.bool s1,.slice a1 n1 c1,.bool s2,.slice a2 n2 c2]) 32)).alloc (.cells #[.bool false,.slice none 0 0,.bool false,.slice none 0 0] 32)=W from hW.symm] at HB;rw[show(w.alloc (.cells #[.bool s1,.slice a1 n1 c1,.bool s2,.slice a2 n2 c2] 32)).alloc (.cells (List.toArray [.bool false,.slice none 0 0,.bool false,.slice none 0 0]) 32)=W from hW.symm,World.size_alloc] at HBR
 have HW:=qh hW;clear hW;go_enter Tryz.func151,Tryz.ntmps151
 go_upto_region 1 with (fail)
 rw[show(w.alloc (.cells #[.bool s1,.slice a1 n1 c1,.bool s2,.slice a2 n2 c2] 32)).alloc (.cells #[.bool false,.slice none 0 0,.bool false,.slice none 0 0] 32)=W from HW.o.symm];obtain⟨x0,x1,x2,x3,x4,x5⟩:=frac_box HB.o;go_wp2_with fail
 refine(CK.o _ HBW.o).mono ?_;rintro e w1 ⟨rfl,hb1⟩;have GB:=qh hb1;clear hb1 CK x0 x1 x2 x3 x4 x5;go_wp2_with fail
 refine(OF.o w1).mono ?_;rintro e w2 ⟨t1,d1,t2,d2,rfl,ho1,ho2,hb2⟩;have HO:=qh (And.intro ho1 ho2);have hs1:=GB.o.size;have GB:=qk GB hb2;have HR1:=qh (HBR.o.below GB.o HBR.o.lt);have HS1:=qh hs1;clear ho1 ho2 hb2 hs1;obtain⟨y0,y1,y2,y3,y4,y5⟩:=frac_box HR1.o;go_wp2_with fail
 have hlt:=HB.o.lt;have hlt2:=HBR.o.lt;have hs1:=HS1.o;have hG:=HBW.o.trans (GB.o.mono HBW.o.size);refine bodyPost_ret (results_cell rfl _ _ _ _ _ _ _ rfl ((((HR1.o.put 0 _).put 1 _).put 2 _).put 3 _) Tryz.underlying32 rfl (by kernel_rfl)) rfl ⟨t1,d1,t2,d2,rfl,?_,HO.o.1.le,?_,HO.o.2.le,?_⟩
 ·exact(((((HO.o.1.oz).oz).oz).oz).rdS B0 w.heap.size (by omega))
 ·exact(((((HO.o.2.oz).oz).oz).oz).rdS B0 w.heap.size (by omega))
 ·exact(((hG.sc).sc).sc).sc
theorem rfit_any (s1:Bool) (a1:Option Addr) (n1 c1:Nat) (o1:Nat->Int) (s2:Bool) (a2:Option Addr) (n2 c2:Nat) (o2:Nat->Int) (w:World) (B0:Nat) (hB0:B0<=w.heap.size)
  (h1:Rd w a1 n1 o1) (hn1:n1<=5000000) (hc1:n1<=c1) (f1:0<n1->∀ p,a1=some p->p.block<B0) (h2:Rd w a2 n2 o2) (hn2:n2<=5000000) (hc2:n2<=c2) (f2:0<n2->∀ p,a2=some p->p.block<B0) :
  Calls Tryz.prog 151 #[fracV s1 a1 n1 c1 s2 a2 n2 c2] w (FracS w B0 (valF s1 n1 o1 s2 n2 o2).num ((valF s1 n1 o1 s2 n2 o2).den:Int)):=by
 by_cases hk:okF s1 n1 o1 s2 n2 o2
 ·obtain⟨e1,e2⟩:=valF_ok hk;rw[e1,e2];exact rfit_ok s1 a1 n1 c1 o1 s2 a2 n2 c2 o2 w B0 hB0 h1 hn1 hc1 f1 h2 hn2 hc2 f2 hk
 ·rw[valF_not hk];exact rfit_not s1 a1 n1 c1 o1 s2 a2 n2 c2 o2 w B0 h1 hn1 hc1 h2 hn2 hc2 hk
def Sin (lo hi:Nat) (w V:World):Prop:=∀ b,(b<lo\/hi<=b)->V.heap[b]?=w.heap[b]?
theorem Sin.refl (lo hi:Nat) (w:World):Sin lo hi w w:=fun _ _=>rfl
theorem Sin.set {lo hi:Nat} {w V:World} (h:Sin lo hi w V) {p:Addr} (h1:lo<=p.block) (h2:p.block<hi) (v:Value):Sin lo hi w (V.setCell p v):=fun b hb =>
 (Below.heap_setCell _ _ _ _ (by omega)).trans (h b hb)
theorem Sin.sz {lo hi:Nat} {w V:World} (h:Sin lo hi w V) {p:Addr} {v:Value} (h1:lo<=p.block:=by dsimp only;omega) (h2:p.block<hi:=by dsimp only;omega):Sin lo hi w (V.setCell p v):=h.set h1 h2 v
theorem RdS.sin {w V:World} {lo hi:Nat} {a:Option Addr} {n:Nat} {o:Nat->Int} (h:RdS w lo hi a n o) (hs:Sin lo hi w V):RdS V lo hi a n o:=by
 refine⟨⟨fun hn=>?_,h.rd.rng⟩,h.far⟩;obtain⟨b,off,ha,hc⟩:=h.rd.cells hn;exact⟨b,off,ha,fun i hi=>(World.cell?_of_block (hs b (h.far hn _ ha))).trans (hc i hi)⟩
theorem FracI.sin {w V:World} {lo hi:Nat} {p q:Int} {x:Option Addr × Nat × Option Addr × Nat} (h:FracI w lo hi p q x) (hs:Sin lo hi w V):FracI V lo hi p q x:=⟨h.r1.sin hs,h.c1,h.r2.sin hs,h.c2⟩
end Limb
end Go.Proofs.YthacfgmdihcffaaGreatDoor
