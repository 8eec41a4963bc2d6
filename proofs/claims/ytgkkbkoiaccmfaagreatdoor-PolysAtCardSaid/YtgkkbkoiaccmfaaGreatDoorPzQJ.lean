/-
  The document's answer for fracs: one, Check, Of, Fit.
-/
import Derived.Test.YtgkkbkoiaccmfaaGreatDoorPzQI
set_option linter.unusedSimpArgs false
set_option linter.unusedVariables false
set_option maxHeartbeats 16000000
set_option maxRecDepth 100000
namespace Go.Proofs.YtgkkbkoiaccmfaaGreatDoor
namespace Limb
open Go.RowKit Go.Sort Go.Fresh
theorem jc6 {P:Program} {fn:Func} {p q:Tmp} {ty ty2:TypeId} (h:fn.results=#[.cell p ty,.cell q ty2]) (tmps:Array Value) (w:World) (g g2:Nat) (ta tb:TypeId) (cs cs2:Array Value) (fr fr2:Nat × Nat) (d d2:TypeDesc)
  (hp:tmps.getD p undef=.pointer (some ⟨g,0,none⟩)) (hg:w.heap[g]?=some (.cells cs ta fr)) (hq:tmps.getD q undef=.pointer (some ⟨g2,0,none⟩)) (hg2:w.heap[g2]?=some (.cells cs2 tb fr2))
  (hu:P.underlying ty=some d) (hd:(match d with | .struct _ | .array _ _=>true | _=>false)=true) (hi:(P.info? ty).map (·.size)=some cs.size)
  (hu2:P.underlying ty2=some d2) (hd2:(match d2 with | .struct _ | .array _ _=>true | _=>false)=true) (hi2:(P.info? ty2).map (·.size)=some cs2.size) :
  (results fn tmps).run P w=.ok (.tuple #[.agg cs,.agg cs2]) w:=by
 have hp':tmps[p]?.getD undef=.pointer (some ⟨g,0,none⟩):=by simpa using hp
 have hq':tmps[q]?.getD undef=.pointer (some ⟨g2,0,none⟩):=by simpa using hq
 simp[results,h,hp',hq',asAddr,run_loadVar_row w g ta ty cs fr d hg hu hd hi,run_loadVar_row w g2 tb ty2 cs2 fr2 d2 hg2 hu2 hd2 hi2]
theorem jaw (s1:Bool) (a1:Option Addr) (n1 c1:Nat) (o1:Nat->Int) (s2:Bool) (a2:Option Addr) (n2 c2:Nat) (o2:Nat->Int) (s3:Bool) (a3:Option Addr) (n3 c3:Nat) (o3:Nat->Int) (s4:Bool) (a4:Option Addr) (n4 c4:Nat) (o4:Nat->Int) (w:World) (x y:Rat)
  (hx:x=Xh s1 n1 o1 s2 n2 o2) (hy:y=Xh s3 n3 o3 s4 n4 o4)
  (h1:Rd w a1 n1 o1) (hn1:n1<=1000000) (hc1:n1<=c1) (h2:Rd w a2 n2 o2) (hn2:n2<=1000000) (hc2:n2<=c2) (h3:Rd w a3 n3 o3) (hn3:n3<=1000000) (hc3:n3<=c3) (h4:Rd w a4 n4 o4) (hn4:n4<=1000000) (hc4:n4<=c4) :
  Calls Tryz.prog 237 #[Qg s1 a1 n1 c1 s2 a2 n2 c2,Qg s3 a3 n3 c3 s4 a4 n4 c4] w (Brought w (x.num*(y.den:Int)) (y.num*(x.den:Int)) ((x.den:Int)*(y.den:Int))):=by
 have hfar:∀ {a:Option Addr} {n:Nat} {o:Nat->Int},Rd w a n o->0<n->∀ p,a=some p->p.block<w.heap.size:=fun h h0 p hp=>by
  obtain⟨b,off,e,hc⟩:=h.cells h0
  rw[e] at hp;cases hp
  exact block_lt_of_cell (hc 0 h0)
 have OX:=qh (fun (w':World) (hb:Below w.heap.size w w')=>Zq s1 a1 n1 c1 o1 s2 a2 n2 c2 o2 w' w.heap.size hb.size (h1.below hb) (by omega) hc1 (hfar h1) (h2.below hb) (by omega) hc2 (hfar h2));have OY:=qh (fun (w':World) (hb:Below w.heap.size w w')=>Zq s3 a3 n3 c3 o3 s4 a4 n4 c4 o4 w' w.heap.size hb.size (h3.below hb) (by omega) hc3 (hfar h3) (h4.below hb) (by omega) hc4 (hfar h4));have l1:=Qa (s1:=s1) (s2:=s2) h1.rng h2.rng;have l2:=Qa (s1:=s3) (s2:=s4) h3.rng h4.rng;rw[<- hx] at OX l1;rw[<- hy] at OY l2;obtain⟨p,hp⟩:∃ p,p=x.num:=⟨_,rfl⟩;obtain⟨q,hq⟩:∃ q:Int,q=(x.den:Int):=⟨_,rfl⟩;obtain⟨r,hr⟩:∃ r,r=y.num:=⟨_,rfl⟩;obtain⟨t,ht⟩:∃ t:Int,t=(y.den:Int):=⟨_,rfl⟩;rw[<- hp,<- hq] at OX l1;rw[<- hr,<- ht] at OY l2;rw[<- hp,<- hq,<- hr,<- ht];have HL:=qh (show(Ja p.natAbs<=1000001/\Ja q.natAbs<=1000001)/\Ja r.natAbs<=1000001/\Ja t.natAbs<=1000001 by omega);clear hp hq hr ht hx hy h1 h2 h3 h4 l1 l2 hfar;have HB1:=qh ((((Bxs.new w 28 [.bool s1,.slice a1 n1 c1,.bool s2,.slice a2 n2 c2]).alloc (.cells #[.bool s3,.slice a3 n3 c3,.bool s4,.slice a4 n4 c4] 28)).alloc (.cells #[.bool false,.slice none 0 0,.bool false,.slice none 0 0] 109)).alloc (.cells #[.bool false,.slice none 0 0] 26));have HB2:=qh (((Bxs.new (w.alloc (.cells #[.bool s1,.slice a1 n1 c1,.bool s2,.slice a2 n2 c2] 28)) 28 [.bool s3,.slice a3 n3 c3,.bool s4,.slice a4 n4 c4]).alloc (.cells #[.bool false,.slice none 0 0,.bool false,.slice none 0 0] 109)).alloc (.cells #[.bool false,.slice none 0 0] 26));have HB4:=qh ((Bxs.new ((w.alloc (.cells #[.bool s1,.slice a1 n1 c1,.bool s2,.slice a2 n2 c2] 28)).alloc (.cells #[.bool s3,.slice a3 n3 c3,.bool s4,.slice a4 n4 c4] 28)) 109 [.bool false,.slice none 0 0,.bool false,.slice none 0 0]).alloc (.cells #[.bool false,.slice none 0 0] 26))
 have HB5:=qh (Bxs.new (((w.alloc (.cells #[.bool s1,.slice a1 n1 c1,.bool s2,.slice a2 n2 c2] 28)).alloc (.cells #[.bool s3,.slice a3 n3 c3,.bool s4,.slice a4 n4 c4] 28)).alloc (.cells #[.bool false,.slice none 0 0,.bool false,.slice none 0 0] 109)) 26 [.bool false,.slice none 0 0]);obtain⟨W,hW⟩:∃ W,W=(((w.alloc (.cells #[.bool s1,.slice a1 n1 c1,.bool s2,.slice a2 n2 c2] 28)).alloc (.cells #[.bool s3,.slice a3 n3 c3,.bool s4,.slice a4 n4 c4] 28)).alloc (.cells #[.bool false,.slice none 0 0,.bool false,.slice none 0 0] 109)).alloc (.cells #[.bool false,.slice none 0 0] 26):=⟨_,rfl⟩;have KG:=qh (show Below w.heap.size w W by rw[hW];exact(((zk.alloc zj _).alloc (by go_size) _).alloc (by go_size) _).alloc (by go_size) _)
 have hWs:w.heap.size+4=W.heap.size:=by rw[hW];simp
 have HB1:=qh (show Bxs W w.heap.size 28 [.bool s1,.slice a1 n1 c1,.bool s2,.slice a2 n2 c2] by rw[hW];exact HB1.o);have HB2:=qh (show Bxs W (w.heap.size+1) 28 [.bool s3,.slice a3 n3 c3,.bool s4,.slice a4 n4 c4] by have h:=HB2.o;simp only[World.size_alloc] at h;rw[hW];exact h);have HB4:=qh (show Bxs W (w.heap.size+1+1) 109 [.bool false,.slice none 0 0,.bool false,.slice none 0 0] by have h:=HB4.o;simp only[World.size_alloc] at h;rw[hW];exact h);have HB5:=qh (show Bxs W (w.heap.size+1+1+1) 26 [.bool false,.slice none 0 0] by have h:=HB5.o;simp only[World.size_alloc] at h;rw[hW];exact h);have HW:=qh hW;have HWS:=qh hWs;clear hW hWs;go_enter Tryz.func237,Tryz.ntmps237
 go_upto_region 1 with (fail)
 rw[show(((w.alloc (.cells #[.bool s1,.slice a1 n1 c1,.bool s2,.slice a2 n2 c2] 28)).alloc (.cells #[.bool s3,.slice a3 n3 c3,.bool s4,.slice a4 n4 c4] 28)).alloc (.cells #[.bool false,.slice none 0 0,.bool false,.slice none 0 0] 109)).alloc (.cells #[.bool false,.slice none 0 0] 26)=W from HW.o.symm];clear HW;have HS:=qh (fun (w':World) (hb:Below W.heap.size W w')=>And.intro (Ji (HB1.o.bl hb)) (Ji (HB2.o.bl hb)))
 refine Jc 3 (JM [(1,Sp.made (jc5 p q) (fun x w'=>QF w' w.heap.size (w.heap.size+4) p q x))]) (fun w'=>Below W.heap.size W w') (by kernel_rfl) (by kernel_rfl)
  (Jd (Sp.Jg fun x w w' h hb=>h.below hb) Jl) (fun _ _ h hb=>h.trans (hb.mono h.size)) (zk.drew) ?_
 simp only[zx,zy,zv,zw]
 (refine Jb rfl rfl ?_ (fun w' hw'=>?_) ?_;rotate_left;· (have hb':=Has.world hw';(obtain⟨x0,x1,x2,x3,x4,x5⟩:=(HS.o _ hb').1);clear hw';go_simp;try rfl))
 conv=>arg 9;simp only[Act.put,zq0,zq1,zq2]
 refine Jf rfl rfl (fun w' hw'=>?_) ?_
 ·have hb':=hw'.world;go_simp;refine(OX.o w' (KG.o.trans (hb'.mono KG.o.size))).mono ?_;intro e w'' hh;obtain⟨z,rfl,hi,hb⟩:=QK hh;exact⟨_,rfl,⟨⟨z.1,z.2.1,z.2.2.1,z.2.2.2,rfl⟩,⟨z.1,z.2.1,z.2.2.1,z.2.2.2,rfl,hi.up (by have:=hb'.size;have:=HWS.o;omega)⟩⟩,hb⟩
 rintro _ ⟨xa,rfl⟩
 conv=>arg 9;simp only[Act.put,zq0,zq1,zq2]
 (refine Jb rfl rfl ?_ (fun w' hw'=>?_) ?_;rotate_left;· (have hb':=Has.world hw';(obtain⟨x0,x1,x2,x3,x4,x5⟩:=(HS.o _ hb').2);clear hw';go_simp;try rfl))
 conv=>arg 9;simp only[Act.put,zq0,zq1,zq2]
 refine Jn (fun w1 hb1 hF=>?_);have HXA:=qh (jbv (hF 1));have GB:=qh hb1;clear hF hb1;go_wp2_with fail
 have OY1:=qh (OY.o w1 (KG.o.trans (GB.o.mono KG.o.size)));clear OX OY HS;with_reducible refine OY1.o.mono ?_
 intro e w2 hh;obtain⟨yb,rfl,hi,hb⟩:=QK hh;have HYB:=qh (hi.up (show w.heap.size+4<=w1.heap.size by have:=GB.o.size;have:=HWS.o;omega));have HXA:=qh (HXA.o.below hb);have GB:=qk GB hb;clear hh hi hb OY1;have M1:=qh (HB1.o.below GB.o HB1.o.lt);have M2:=qh (HB2.o.below GB.o HB2.o.lt);have M4:=qh (HB4.o.below GB.o HB4.o.lt);have M5:=qh (HB5.o.below GB.o HB5.o.lt);obtain⟨x0,x1,x2,x3,x4,x5⟩:=Ji M1.o;obtain⟨y0,y1,y2,y3,y4,y5⟩:=Ji M2.o
 go_upto_region 2 with (fail)
 obtain⟨V,hV⟩:∃ V,V=((((((((w2.setCell ⟨w.heap.size,0,none⟩ (.bool (decide (p<0)))).setCell ⟨w.heap.size,1,none⟩ (.slice xa.1 (Ja p.natAbs) xa.2.1)).setCell ⟨w.heap.size,2,none⟩ (.bool (decide (q<0)))).setCell ⟨w.heap.size,3,none⟩ (.slice xa.2.2.1 (Ja q.natAbs) xa.2.2.2)).setCell ⟨w.heap.size+1,0,none⟩ (.bool (decide (r<0)))).setCell ⟨w.heap.size+1,1,none⟩ (.slice yb.1 (Ja r.natAbs) yb.2.1)).setCell ⟨w.heap.size+1,2,none⟩ (.bool (decide (t<0)))).setCell ⟨w.heap.size+1,3,none⟩ (.slice yb.2.2.1 (Ja t.natAbs) yb.2.2.2)):=⟨_,rfl⟩;have M1:=qh (show Bxs V w.heap.size 28 [.bool (decide (p<0)),.slice xa.1 (Ja p.natAbs) xa.2.1,.bool (decide (q<0)),.slice xa.2.2.1 (Ja q.natAbs) xa.2.2.2] by rw[hV];exact((((((((M1.o.put 0 _).put 1 _).put 2 _).put 3 _).oz).oz).oz).oz));have M2:=qh (show Bxs V (w.heap.size+1) 28 [.bool (decide (r<0)),.slice yb.1 (Ja r.natAbs) yb.2.1,.bool (decide (t<0)),.slice yb.2.2.1 (Ja t.natAbs) yb.2.2.2] by rw[hV];exact((((((((M2.o.oz).oz).oz).oz).put 0 _).put 1 _).put 2 _).put 3 _));have M4:=qh (show Bxs V (w.heap.size+1+1) 109 [.bool false,.slice none 0 0,.bool false,.slice none 0 0] by rw[hV];exact((((((((M4.o.oz).oz).oz).oz).oz).oz).oz).oz))
 have M5:=qh (show Bxs V (w.heap.size+1+1+1) 26 [.bool false,.slice none 0 0] by rw[hV];exact((((((((M5.o.oz).oz).oz).oz).oz).oz).oz).oz));have HXA:=qh (show QF V w.heap.size (w.heap.size+4) p q xa by rw[hV];exact((((((((HXA.o.sz).sz).sz).sz).sz).sz).sz).sz));have HYB:=qh (show QF V w.heap.size (w.heap.size+4) r t yb by rw[hV];exact((((((((HYB.o.sz).sz).sz).sz).sz).sz).sz).sz));have hG:=KG.o.trans (GB.o.mono KG.o.size);have KG:=qh (show Below w.heap.size w V by rw[hV];exact((((((((hG.sc).sc).sc).sc).sc).sc).sc).sc))
 rw[show((((((((w2.setCell ⟨w.heap.size,0,none⟩ (.bool (decide (p<0)))).setCell ⟨w.heap.size,1,none⟩ (.slice xa.1 (Ja p.natAbs) xa.2.1)).setCell ⟨w.heap.size,2,none⟩ (.bool (decide (q<0)))).setCell ⟨w.heap.size,3,none⟩ (.slice xa.2.2.1 (Ja q.natAbs) xa.2.2.2)).setCell ⟨w.heap.size+1,0,none⟩ (.bool (decide (r<0)))).setCell ⟨w.heap.size+1,1,none⟩ (.slice yb.1 (Ja r.natAbs) yb.2.1)).setCell ⟨w.heap.size+1,2,none⟩ (.bool (decide (t<0)))).setCell ⟨w.heap.size+1,3,none⟩ (.slice yb.2.2.1 (Ja t.natAbs) yb.2.2.2))=V from hV.symm];clear hV hG x0 x1 x2 x3 x4 x5 y0 y1 y2 y3 y4 y5 HB1 HB2 HB4 HB5 GB;obtain⟨T1,hT1⟩:∃ T1,T1=p*t:=⟨_,rfl⟩;obtain⟨T2,hT2⟩:∃ T2,T2=r*q:=⟨_,rfl⟩;obtain⟨Lw,hLw⟩:∃ Lw,Lw=q*t:=⟨_,rfl⟩;have HT:=qh (And.intro hT1 (And.intro hT2 hLw));clear hT1 hT2 hLw;have MA:=qh (fun (w':World) (hb:Below V.heap.size V w')=>YT (decide (p<0)) xa.1 (Ja p.natAbs) xa.2.1 (dgi p.natAbs) (decide (t<0)) yb.2.2.1 (Ja t.natAbs) yb.2.2.2 (dgi t.natAbs) w' (HXA.o.r1.rd.below hb) (by have:=HL.o;omega) HXA.o.c1 (HYB.o.r2.rd.below hb) (by have:=HL.o;omega) HYB.o.c2);rw[Jj,Jj,<- HT.o.1] at MA;have MB:=qh (fun (w':World) (hb:Below V.heap.size V w')=>YT (decide (r<0)) yb.1 (Ja r.natAbs) yb.2.1 (dgi r.natAbs) (decide (q<0)) xa.2.2.1 (Ja q.natAbs) xa.2.2.2 (dgi q.natAbs) w' (HYB.o.r1.rd.below hb) (by have:=HL.o;omega) HYB.o.c1 (HXA.o.r2.rd.below hb) (by have:=HL.o;omega) HXA.o.c2);rw[Jj,Jj,<- HT.o.2.1] at MB;have MC:=qh (fun (w':World) (hb:Below V.heap.size V w')=>YT (decide (q<0)) xa.2.2.1 (Ja q.natAbs) xa.2.2.2 (dgi q.natAbs) (decide (t<0)) yb.2.2.1 (Ja t.natAbs) yb.2.2.2 (dgi t.natAbs) w' (HXA.o.r2.rd.below hb) (by have:=HL.o;omega) HXA.o.c2 (HYB.o.r2.rd.below hb) (by have:=HL.o;omega) HYB.o.c2)
 rw[Jj,Jj,<- HT.o.2.2] at MC;have HS:=qh (fun (w':World) (hb:Below V.heap.size V w')=>And.intro (Ji (M1.o.bl hb)) (Ji (M2.o.bl hb)))
 refine Jc 16 (JM [(4,Sp.made (fun x:Option Addr=>Jy (decide (T1<0)) x (Ja T1.natAbs) (Ja T1.natAbs)) (fun x w'=>Own 160 w' V.heap.size x (Ja T1.natAbs) (Ja T1.natAbs) (dgi T1.natAbs))),(9,Sp.made (fun x:Option Addr=>Jy (decide (T2<0)) x (Ja T2.natAbs) (Ja T2.natAbs)) (fun x w'=>Own 160 w' V.heap.size x (Ja T2.natAbs) (Ja T2.natAbs) (dgi T2.natAbs))),(15,Sp.made (fun x:Option Addr=>Jy (decide (Lw<0)) x (Ja Lw.natAbs) (Ja Lw.natAbs)) (fun x w'=>Own 160 w' V.heap.size x (Ja Lw.natAbs) (Ja Lw.natAbs) (dgi Lw.natAbs)))]) (fun w'=>Below V.heap.size V w') (by kernel_rfl) (by kernel_rfl)
  (Jd (Sp.Jg fun x w w' h hb=>h.below hb) (Jd (Sp.Jg fun x w w' h hb=>h.below hb) (Jd (Sp.Jg fun x w w' h hb=>h.below hb) Jl))) (fun _ _ h hb=>h.trans (hb.mono h.size)) (zk.drew) ?_
 simp only[zx,zy,zv,zw]
 iterate 4
  (refine Jb rfl rfl ?_ (fun w' hw'=>?_) ?_;rotate_left;· (have hb':=Has.world hw';(obtain⟨x0,x1,x2,x3,x4,x5⟩:=(HS.o _ hb').1;obtain⟨x0,x1,x2,x3,x4,x5⟩:=(HS.o _ hb').2);clear hw';go_simp;try rfl))
  conv=>arg 9;simp only[Act.put,zq0,zq1,zq2]
 (refine Jf rfl rfl (fun w' hw'=>?_) ?_;· (have hb':=Has.world hw';go_simp;((refine(MA.o w' hb').mono ?_;rintro e w'' ⟨a,rfl,ho,-,hb⟩;exact⟨_,rfl,⟨⟨a,rfl⟩,⟨a,rfl,ho.mono hb'.size⟩⟩,hb⟩))))
 rintro _ ⟨ma,rfl⟩
 conv=>arg 9;simp only[Act.put,zq0,zq1,zq2]
 iterate 4
  (refine Jb rfl rfl ?_ (fun w' hw'=>?_) ?_;rotate_left;· (have hb':=Has.world hw';(obtain⟨x0,x1,x2,x3,x4,x5⟩:=(HS.o _ hb').2;obtain⟨x0,x1,x2,x3,x4,x5⟩:=(HS.o _ hb').1);clear hw';go_simp;try rfl))
  conv=>arg 9;simp only[Act.put,zq0,zq1,zq2]
 (refine Jf rfl rfl (fun w' hw'=>?_) ?_;· (have hb':=Has.world hw';go_simp;((refine(MB.o w' hb').mono ?_;rintro e w'' ⟨a,rfl,ho,-,hb⟩;exact⟨_,rfl,⟨⟨a,rfl⟩,⟨a,rfl,ho.mono hb'.size⟩⟩,hb⟩))))
 rintro _ ⟨mb,rfl⟩
 conv=>arg 9;simp only[Act.put,zq0,zq1,zq2]
 iterate 5
  (refine Jb rfl rfl ?_ (fun w' hw'=>?_) ?_;rotate_left;· (have hb':=Has.world hw';(obtain⟨x0,x1,x2,x3,x4,x5⟩:=(HS.o _ hb').1;obtain⟨x0,x1,x2,x3,x4,x5⟩:=(HS.o _ hb').2);clear hw';go_simp;try rfl))
  conv=>arg 9;simp only[Act.put,zq0,zq1,zq2]
 (refine Jf rfl rfl (fun w' hw'=>?_) ?_;· (have hb':=Has.world hw';go_simp;((refine(MC.o w' hb').mono ?_;rintro e w'' ⟨a,rfl,ho,-,hb⟩;exact⟨_,rfl,⟨⟨a,rfl⟩,⟨a,rfl,ho.mono hb'.size⟩⟩,hb⟩))))
 rintro _ ⟨mc,rfl⟩
 conv=>arg 9;simp only[Act.put,zq0,zq1,zq2]
 refine Jn (fun w3 hb3 hF=>?_);have HO:=qh (And.intro (Xv (T:=160) (b:=V.heap.size) (s:=decide (T1<0)) (L:=Ja T1.natAbs) (o:=dgi T1.natAbs) (a:=ma) (hF 4)) (And.intro (Xv (T:=160) (b:=V.heap.size) (s:=decide (T2<0)) (L:=Ja T2.natAbs) (o:=dgi T2.natAbs) (a:=mb) (hF 9)) (Xv (T:=160) (b:=V.heap.size) (s:=decide (Lw<0)) (L:=Ja Lw.natAbs) (o:=dgi Lw.natAbs) (a:=mc) (hF 15))));have N4:=qh (M4.o.bl hb3);have N5:=qh (M5.o.bl hb3);have KG3:=qh (KG.o.trans (hb3.mono KG.o.size));have HVS:=qh (show w.heap.size+4<=V.heap.size by have:=M5.o.lt;omega);clear hF hb3 HS MA MB MC;have z0:=N4.o.ce 0;have z1:=N4.o.ce 1;have z2:=N4.o.ce 2;have z3:=N4.o.ce 3;have zf:=N4.o.fz;have zl:=N4.o.lt;obtain⟨y0,y1,y2,y3⟩:=N5.o.bx.all;go_wp2_with fail
 have hvs:=HVS.o;rw[<- HT.o.1,<- HT.o.2.1,<- HT.o.2.2];have k4:=((((((N4.o.put 0 (.bool (decide (T1<0)))).put 1 (.slice ma (Ja T1.natAbs) (Ja T1.natAbs))).put 2 (.bool (decide (T2<0)))).put 3 (.slice mb (Ja T2.natAbs) (Ja T2.natAbs))).other (a:=⟨w.heap.size+1+1+1,0,none⟩) (by dsimp only;omega) (.bool (decide (Lw<0)))).other (a:=⟨w.heap.size+1+1+1,1,none⟩) (by dsimp only;omega) (.slice mc (Ja Lw.natAbs) (Ja Lw.natAbs)));have k5:=((((((N5.o.other (a:=⟨w.heap.size+1+1,0,none⟩) (by dsimp only;omega) (.bool (decide (T1<0)))).other (a:=⟨w.heap.size+1+1,1,none⟩) (by dsimp only;omega) (.slice ma (Ja T1.natAbs) (Ja T1.natAbs))).other (a:=⟨w.heap.size+1+1,2,none⟩) (by dsimp only;omega) (.bool (decide (T2<0)))).other (a:=⟨w.heap.size+1+1,3,none⟩) (by dsimp only;omega) (.slice mb (Ja T2.natAbs) (Ja T2.natAbs))).put 0 (.bool (decide (Lw<0)))).put 1 (.slice mc (Ja Lw.natAbs) (Ja Lw.natAbs)));refine bodyPost_ret (jc6 rfl _ _ _ _ _ _ _ _ _ _ _ _ rfl k4 rfl k5 Tryz.underlying109 rfl (by kernel_rfl) Tryz.underlying26 rfl (by kernel_rfl)) rfl ⟨ma,mb,mc,rfl,?_,?_,?_,?_⟩
 ·exact((((((HO.o.1.oz).oz).oz).oz).oz).oz).mono (by omega)
 ·exact((((((HO.o.2.1.oz).oz).oz).oz).oz).oz).mono (by omega)
 ·exact((((((HO.o.2.2.oz).oz).oz).oz).oz).oz).mono (by omega)
 ·exact((((((KG3.o.sc).sc).sc).sc).sc).sc)
theorem Ju (a b:Nat):Ja (a*b)<=Ja a+Ja b:=by
 refine QO ?_;rw[Yz];by_cases hb:b=0
 ·subst hb;have:=JG a;have h2:=JG 0;exact Nat.mul_pos (by omega) h2
 ·exact Nat.mul_lt_mul_of_lt_of_le (JG a) (Nat.le_of_lt (JG b)) (QC _)
theorem Uh (G:Nat) (cs:Array Value) (T:Int) (s1:Bool) (a1:Option Addr) (n1 c1:Nat) (o1:Nat->Int) (s2:Bool) (a2:Option Addr) (n2 c2:Nat) (o2:Nat->Int) (s3:Bool) (a3:Option Addr) (n3 c3:Nat) (o3:Nat->Int) (s4:Bool) (a4:Option Addr) (n4 c4:Nat) (o4:Nat->Int) (w:World) (x y:Rat)
  (hx:x=Xh s1 n1 o1 s2 n2 o2) (hy:y=Xh s3 n3 o3 s4 n4 o4)
  (h1:Rd w a1 n1 o1) (hn1:n1<=1000000) (hc1:n1<=c1) (h2:Rd w a2 n2 o2) (hn2:n2<=1000000) (hc2:n2<=c2) (h3:Rd w a3 n3 o3) (hn3:n3<=1000000) (hc3:n3<=c3) (h4:Rd w a4 n4 o4) (hn4:n4<=1000000) (hc4:n4<=c4)
  (hcf:∀ (args:Array Value) (w:World),(callFunc G args).run Tryz.prog w=.ok (.enter G args) w)
  (hT:Ja T.natAbs<=4000000)
  (hF:∀ (m1 m2:Option Addr) (w1:World),Below w.heap.size w w1->Rd w1 m1 (Ja (x.num*(y.den:Int)).natAbs) (dgi (x.num*(y.den:Int)).natAbs)->Rd w1 m2 (Ja (y.num*(x.den:Int)).natAbs) (dgi (y.num*(x.den:Int)).natAbs) ->
   Calls Tryz.prog G (#[Jy (decide (x.num*(y.den:Int)<0)) m1 (Ja (x.num*(y.den:Int)).natAbs) (Ja (x.num*(y.den:Int)).natAbs),Jy (decide (y.num*(x.den:Int)<0)) m2 (Ja (y.num*(x.den:Int)).natAbs) (Ja (y.num*(x.den:Int)).natAbs)]++cs) w1 (Yk w1 T)) :
  Calls Tryz.prog 172 #[Qg s1 a1 n1 c1 s2 a2 n2 c2,Qg s3 a3 n3 c3 s4 a4 n4 c4,.func (.func G) #[] cs] w (Zi w (Rat.divInt T ((x.den:Int)*(y.den:Int))).num ((Rat.divInt T ((x.den:Int)*(y.den:Int))).den:Int)):=by
 have l1:=Qa (s1:=s1) (s2:=s2) h1.rng h2.rng;have l2:=Qa (s1:=s3) (s2:=s4) h3.rng h4.rng;rw[<- hx] at l1;rw[<- hy] at l2
 have HL:=qh (show Ja ((x.den:Int)*(y.den:Int)).natAbs<=4000000 by
  have:=Ju (x.den:Int).natAbs (y.den:Int).natAbs;rw[Int.natAbs_mul]
  omega)
 have HD:=qh (show(x.den:Int)*(y.den:Int)≠0 from Int.mul_ne_zero (by have:=x.den_nz;omega) (by have:=y.den_nz;omega));have HB1:=qh (((Bxs.new w 28 [.bool s1,.slice a1 n1 c1,.bool s2,.slice a2 n2 c2]).alloc (.cells #[.bool s3,.slice a3 n3 c3,.bool s4,.slice a4 n4 c4] 28)).alloc (.cells #[.bool false,.slice none 0 0,.bool false,.slice none 0 0] 28));have HB2:=qh ((Bxs.new (w.alloc (.cells #[.bool s1,.slice a1 n1 c1,.bool s2,.slice a2 n2 c2] 28)) 28 [.bool s3,.slice a3 n3 c3,.bool s4,.slice a4 n4 c4]).alloc (.cells #[.bool false,.slice none 0 0,.bool false,.slice none 0 0] 28));have HB3:=qh (Bxs.new ((w.alloc (.cells #[.bool s1,.slice a1 n1 c1,.bool s2,.slice a2 n2 c2] 28)).alloc (.cells #[.bool s3,.slice a3 n3 c3,.bool s4,.slice a4 n4 c4] 28)) 28 [.bool false,.slice none 0 0,.bool false,.slice none 0 0]);obtain⟨W,hW⟩:∃ W,W=((w.alloc (.cells #[.bool s1,.slice a1 n1 c1,.bool s2,.slice a2 n2 c2] 28)).alloc (.cells #[.bool s3,.slice a3 n3 c3,.bool s4,.slice a4 n4 c4] 28)).alloc (.cells #[.bool false,.slice none 0 0,.bool false,.slice none 0 0] 28):=⟨_,rfl⟩;have KG:=qh (show Below w.heap.size w W by rw[hW];exact((zk.alloc zj _).alloc (by go_size) _).alloc (by go_size) _)
 have hWs:w.heap.size+3=W.heap.size:=by rw[hW];simp
 have HB1:=qh (show Bxs W w.heap.size 28 [.bool s1,.slice a1 n1 c1,.bool s2,.slice a2 n2 c2] by rw[hW];exact HB1.o);have HB2:=qh (show Bxs W (w.heap.size+1) 28 [.bool s3,.slice a3 n3 c3,.bool s4,.slice a4 n4 c4] by have h:=HB2.o;simp only[World.size_alloc] at h;rw[hW];exact h);have HB3:=qh (show Bxs W (w.heap.size+1+1) 28 [.bool false,.slice none 0 0,.bool false,.slice none 0 0] by have h:=HB3.o;simp only[World.size_alloc] at h;rw[hW];exact h);have BR:=qh (jaw s1 a1 n1 c1 o1 s2 a2 n2 c2 o2 s3 a3 n3 c3 o3 s4 a4 n4 c4 o4 W x y hx hy (h1.below KG.o) hn1 hc1 (h2.below KG.o) hn2 hc2 (h3.below KG.o) hn3 hc3 (h4.below KG.o) hn4 hc4);obtain⟨T1,hT1⟩:∃ T1,T1=x.num*(y.den:Int):=⟨_,rfl⟩;obtain⟨T2,hT2⟩:∃ T2,T2=y.num*(x.den:Int):=⟨_,rfl⟩;obtain⟨Lw,hLw⟩:∃ Lw,Lw=(x.den:Int)*(y.den:Int):=⟨_,rfl⟩;rw[<- hT1,<- hT2] at hF;rw[<- hT1,<- hT2,<- hLw] at BR;rw[<- hLw] at HL HD ⊢;have HF:=qh hF;have HT:=qh hT;have HW:=qh hW;have HWS:=qh hWs;clear hF hW hWs hT1 hT2 hLw hx hy h1 h2 h3 h4 l1 l2 hT;go_enter Tryz.func172,Tryz.ntmps172
 go_upto_region 1 with (fail)
 rw[show((w.alloc (.cells #[.bool s1,.slice a1 n1 c1,.bool s2,.slice a2 n2 c2] 28)).alloc (.cells #[.bool s3,.slice a3 n3 c3,.bool s4,.slice a4 n4 c4] 28)).alloc (.cells #[.bool false,.slice none 0 0,.bool false,.slice none 0 0] 28)=W from HW.o.symm];clear HW;obtain⟨x0,x1,x2,x3,x4,x5⟩:=Ji HB1.o;obtain⟨y0,y1,y2,y3,y4,y5⟩:=Ji HB2.o;go_wp2_with fail
 with_reducible refine BR.o.mono ?_
 rintro e w2 ⟨m1,m2,m3,rfl,O1,O2,O3,hb⟩
 go_upto_region 2 with (fail)
 obtain⟨V,hV⟩:∃ V,V=(w2.alloc (.cells #[.bool (decide (T1<0)),.slice m1 (Ja T1.natAbs) (Ja T1.natAbs),.bool (decide (T2<0)),.slice m2 (Ja T2.natAbs) (Ja T2.natAbs)] 109)).alloc (.cells #[.bool (decide (Lw<0)),.slice m3 (Ja Lw.natAbs) (Ja Lw.natAbs)] 26):=⟨_,rfl⟩;have M4:=qh (show Bxs V w2.heap.size 109 [.bool (decide (T1<0)),.slice m1 (Ja T1.natAbs) (Ja T1.natAbs),.bool (decide (T2<0)),.slice m2 (Ja T2.natAbs) (Ja T2.natAbs)] by rw[hV];exact(Bxs.new w2 109 [.bool (decide (T1<0)),.slice m1 (Ja T1.natAbs) (Ja T1.natAbs),.bool (decide (T2<0)),.slice m2 (Ja T2.natAbs) (Ja T2.natAbs)]).alloc _);have M5:=qh (show Bxs V (w2.heap.size+1) 26 [.bool (decide (Lw<0)),.slice m3 (Ja Lw.natAbs) (Ja Lw.natAbs)] by have h:=Bxs.new (w2.alloc (.cells #[.bool (decide (T1<0)),.slice m1 (Ja T1.natAbs) (Ja T1.natAbs),.bool (decide (T2<0)),.slice m2 (Ja T2.natAbs) (Ja T2.natAbs)] 109)) 26 [.bool (decide (Lw<0)),.slice m3 (Ja Lw.natAbs) (Ja Lw.natAbs)];simp only[World.size_alloc] at h;rw[hV];exact h)
 have hbV:Below W.heap.size W V:=by rw[hV];exact(hb.alloc hb.size _).alloc (by have:=hb.size;go_size) _
 have M3:=qh (HB3.o.bl hbV);have O1:=qh (show Own 160 V W.heap.size m1 (Ja T1.natAbs) (Ja T1.natAbs) (dgi T1.natAbs) by rw[hV];exact(O1.JK _).JK _);have O2:=qh (show Own 160 V W.heap.size m2 (Ja T2.natAbs) (Ja T2.natAbs) (dgi T2.natAbs) by rw[hV];exact(O2.JK _).JK _);have O3:=qh (show Own 160 V W.heap.size m3 (Ja Lw.natAbs) (Ja Lw.natAbs) (dgi Lw.natAbs) by rw[hV];exact(O3.JK _).JK _);have KG:=qk KG hbV;have KW:=qh hbV.size;obtain⟨b4,hb4⟩:∃ b,b=w2.heap.size:=⟨_,rfl⟩;rw[show(w2.alloc (.cells #[.bool (decide (T1<0)),.slice m1 (Ja T1.natAbs) (Ja T1.natAbs),.bool (decide (T2<0)),.slice m2 (Ja T2.natAbs) (Ja T2.natAbs)] 109)).alloc (.cells #[.bool (decide (Lw<0)),.slice m3 (Ja Lw.natAbs) (Ja Lw.natAbs)] 26)=V from hV.symm];rw[<- hb4] at M4 M5 ⊢;clear hV hbV hb hb4 x0 x1 x2 x3 x4 x5 y0 y1 y2 y3 y4 y5 HB1 HB2 HB3 BR;have HS:=qh (fun (w':World) (hb:Below V.heap.size V w')=>And.intro (M4.o.bl hb) (M5.o.bl hb).bx.all);have HC:=qh (fun (w':World) (hb:Below V.heap.size V w')=>HF.o m1 m2 w' (KG.o.trans (hb.mono KG.o.size)) (O1.o.rd.below hb) (O2.o.rd.below hb))
 refine Jc 7 (JM [(5,Sp.made (fun x:Option Addr=>Jy (decide (T<0)) x (Ja T.natAbs) (Ja T.natAbs)) (fun x w'=>Own 160 w' V.heap.size x (Ja T.natAbs) (Ja T.natAbs) (dgi T.natAbs)))]) (fun w'=>Below V.heap.size V w') (by kernel_rfl) (by kernel_rfl)
  (Jd (Sp.Jg fun x w w' h hb=>h.below hb) Jl) (fun _ _ h hb=>h.trans (hb.mono h.size)) (zk.drew) ?_
 simp only[zx,zy,zv,zw]
 iterate 5
  (refine Jb rfl rfl ?_ (fun w' hw'=>?_) ?_;rotate_left;· (have hb':=Has.world hw';(have hs:=(HS.o _ hb').1;have x0:=hs.ce 0;have x1:=hs.ce 1;have x2:=hs.ce 2;have x3:=hs.ce 3;have x4:=hs.fz;have x5:=hs.lt);clear hw';go_simp;try rfl))
  conv=>arg 9;simp only[Act.put,zq0,zq1,zq2]
 (refine Jf rfl rfl (fun w' hw'=>?_) ?_;· (have hb':=Has.world hw';go_simp;((refine(HC.o w' hb').mono ?_;rintro e w'' ⟨a,rfl,ho,-,hb⟩;exact⟨_,rfl,⟨⟨a,rfl⟩,⟨a,rfl,ho.mono hb'.size⟩⟩,hb⟩))))
 rintro _ ⟨mt,rfl⟩
 conv=>arg 9;simp only[Act.put,zq0,zq1,zq2]
 (refine Jb rfl rfl ?_ (fun w' hw'=>?_) ?_;rotate_left;· (have hb':=Has.world hw';(obtain⟨x0,x1,x2,x3⟩:=(HS.o _ hb').2);clear hw';go_simp;try rfl))
 conv=>arg 9;simp only[Act.put,zq0,zq1,zq2]
 refine Jn (fun w3 hb3 hF=>?_);have HO:=qh (Xv (T:=160) (b:=V.heap.size) (s:=decide (T<0)) (L:=Ja T.natAbs) (o:=dgi T.natAbs) (a:=mt) (hF 5));have LO:=qh (jc4 T Lw mt m3 (Ja T.natAbs) (Ja Lw.natAbs) w3 HO.o.rd HT.o zj (O3.o.rd.below hb3) HL.o zj HD.o);have M3:=qh (M3.o.bl hb3);have KG:=qk KG hb3;have HWS:=qh (show w.heap.size+3<=w3.heap.size by have:=HWS.o;have:=KW.o;have:=hb3.size;omega);clear hF hb3 HS HC HF HO O1 O2 O3 M4 M5 hcf KW;go_wp2_with fail
 with_reducible refine LO.o.mono ?_
 rintro e w4 ⟨r1,r2,rfl,Q1,Q2,hap,hb⟩;have M3:=qh (M3.o.bl hb);have KG:=qk KG hb;have hvs:=HWS.o;clear hb LO;have z0:=M3.o.ce 0;have z1:=M3.o.ce 1;have z2:=M3.o.ce 2;have z3:=M3.o.ce 3;have zf:=M3.o.fz;have zl:=M3.o.lt;go_wp2_with fail
 refine bodyPost_ret (Je rfl _ _ _ _ _ _ _ rfl ((((M3.o.put 0 _).put 1 _).put 2 _).put 3 _) Tryz.underlying28 rfl (by kernel_rfl)) rfl ⟨r1,r2,rfl,?_,?_,hap,?_⟩
 ·exact((((Q1.oz).oz).oz).oz).mono (by omega)
 ·exact((((Q2.oz).oz).oz).oz).mono (by omega)
 ·exact(((KG.o.sc).sc).sc).sc
theorem YY (x y:Rat):Rat.divInt (x.num*(y.den:Int)+y.num*(x.den:Int)) ((x.den:Int)*(y.den:Int))=x+y:=by
 rw[Rat.add_def'];rw[<- Rat.divInt_ofNat,Int.natCast_mul]
theorem jft (m n k:Nat) (hm:Ja m<=k) (hn:Ja n<=k):Ja (m+n)<=k+1:=by
 refine QO ?_;have h1:=Nat.lt_of_lt_of_le (JG m) (U6 hm);have h2:=Nat.lt_of_lt_of_le (JG n) (U6 hn);rw[JN];omega
theorem Kj (a b:Int):Ja (a+b).natAbs<=max (Ja a.natAbs) (Ja b.natAbs)+1 :=
 zm (JQ (Int.natAbs_add_le a b)) (jft _ _ _ (by omega) (by omega))
theorem addc_any (s1:Bool) (a1:Option Addr) (n1 c1:Nat) (o1:Nat->Int) (s2:Bool) (a2:Option Addr) (n2 c2:Nat) (o2:Nat->Int) (w:World)
  (h1:Rd w a1 n1 o1) (hn1:n1<=100000000) (hc1:n1<=c1) (h2:Rd w a2 n2 o2) (hn2:n2<=100000000) (hc2:n2<=c2) :
  Calls Tryz.prog 207 #[Jy s1 a1 n1 c1,Jy s2 a2 n2 c2] w (Yk w (Jq s1 n1 o1+Jq s2 n2 o2)):=by
 have HB1:=qh (((Bxs.new w 26 [.bool s1,.slice a1 n1 c1]).alloc (.cells #[.bool s2,.slice a2 n2 c2] 26)).alloc (.cells #[.bool false,.slice none 0 0] 26));have HB2:=qh ((Bxs.new (w.alloc (.cells #[.bool s1,.slice a1 n1 c1] 26)) 26 [.bool s2,.slice a2 n2 c2]).alloc (.cells #[.bool false,.slice none 0 0] 26));have HB3:=qh (Bxs.new ((w.alloc (.cells #[.bool s1,.slice a1 n1 c1] 26)).alloc (.cells #[.bool s2,.slice a2 n2 c2] 26)) 26 [.bool false,.slice none 0 0]);obtain⟨W,hW⟩:∃ W,W=((w.alloc (.cells #[.bool s1,.slice a1 n1 c1] 26)).alloc (.cells #[.bool s2,.slice a2 n2 c2] 26)).alloc (.cells #[.bool false,.slice none 0 0] 26):=⟨_,rfl⟩;have KG:=qh (show Below w.heap.size w W by rw[hW];exact((zk.alloc zj _).alloc (by go_size) _).alloc (by go_size) _)
 have hWs:w.heap.size+3=W.heap.size:=by rw[hW];simp
 have HB1:=qh (show Bxs W w.heap.size 26 [.bool s1,.slice a1 n1 c1] by rw[hW];exact HB1.o);have HB2:=qh (show Bxs W (w.heap.size+1) 26 [.bool s2,.slice a2 n2 c2] by have h:=HB2.o;simp only[World.size_alloc] at h;rw[hW];exact h);have HB3:=qh (show Bxs W (w.heap.size+1+1) 26 [.bool false,.slice none 0 0] by have h:=HB3.o;simp only[World.size_alloc] at h;rw[hW];exact h);have BR:=qh (UW s1 a1 n1 c1 o1 s2 a2 n2 c2 o2 W (h1.below KG.o) hn1 hc1 (h2.below KG.o) hn2 hc2);obtain⟨T,hT⟩:∃ T,T=Jq s1 n1 o1+Jq s2 n2 o2:=⟨_,rfl⟩;rw[<- hT] at BR ⊢;have HW:=qh hW;have HWS:=qh hWs;clear hW hWs h1 h2 hT;go_enter Tryz.func207,Tryz.ntmps207
 go_upto_region 1 with (fail)
 rw[show((w.alloc (.cells #[.bool s1,.slice a1 n1 c1] 26)).alloc (.cells #[.bool s2,.slice a2 n2 c2] 26)).alloc (.cells #[.bool false,.slice none 0 0] 26)=W from HW.o.symm];clear HW;obtain⟨x0,x1,x2,x3⟩:=HB1.o.bx.all;obtain⟨y0,y1,y2,y3⟩:=HB2.o.bx.all;go_wp2_with fail
 with_reducible refine BR.o.mono ?_
 rintro e w2 ⟨m,rfl,O1,hm,hb⟩;have M3:=qh (HB3.o.bl hb);have KG:=qk KG hb;have hvs:=HWS.o;have h2s:=hb.size;clear x0 x1 x2 x3 y0 y1 y2 y3 HB1 HB2 HB3 BR hb;obtain⟨z0,z1,z2,z3⟩:=M3.o.bx.all;go_wp2_with fail
 refine bodyPost_ret (Je rfl _ _ _ _ _ _ _ rfl ((M3.o.put 0 _).put 1 _) Tryz.underlying26 rfl (by kernel_rfl)) rfl ⟨m,rfl,?_,hm,?_⟩
 ·exact((O1.oz).oz).mono (by omega)
 ·exact(KG.o.sc).sc
theorem fadd_any (s1:Bool) (a1:Option Addr) (n1 c1:Nat) (o1:Nat->Int) (s2:Bool) (a2:Option Addr) (n2 c2:Nat) (o2:Nat->Int) (s3:Bool) (a3:Option Addr) (n3 c3:Nat) (o3:Nat->Int) (s4:Bool) (a4:Option Addr) (n4 c4:Nat) (o4:Nat->Int) (w:World) (x y:Rat)
  (hx:x=Xh s1 n1 o1 s2 n2 o2) (hy:y=Xh s3 n3 o3 s4 n4 o4)
  (h1:Rd w a1 n1 o1) (hn1:n1<=1000000) (hc1:n1<=c1) (h2:Rd w a2 n2 o2) (hn2:n2<=1000000) (hc2:n2<=c2) (h3:Rd w a3 n3 o3) (hn3:n3<=1000000) (hc3:n3<=c3) (h4:Rd w a4 n4 o4) (hn4:n4<=1000000) (hc4:n4<=c4) :
  Calls Tryz.prog 126 #[Qg s1 a1 n1 c1 s2 a2 n2 c2,Qg s3 a3 n3 c3 s4 a4 n4 c4] w (Zi w (x+y).num ((x+y).den:Int)):=by
 have l1:=Qa (s1:=s1) (s2:=s2) h1.rng h2.rng;have l2:=Qa (s1:=s3) (s2:=s4) h3.rng h4.rng;rw[<- hx] at l1;rw[<- hy] at l2;have hl1:=Ju x.num.natAbs (y.den:Int).natAbs;have hl2:=Ju y.num.natAbs (x.den:Int).natAbs;rw[<- Int.natAbs_mul] at hl1 hl2;have HB1:=qh (((Bxs.new w 28 [.bool s1,.slice a1 n1 c1,.bool s2,.slice a2 n2 c2]).alloc (.cells #[.bool s3,.slice a3 n3 c3,.bool s4,.slice a4 n4 c4] 28)).alloc (.cells #[.bool false,.slice none 0 0,.bool false,.slice none 0 0] 28));have HB2:=qh ((Bxs.new (w.alloc (.cells #[.bool s1,.slice a1 n1 c1,.bool s2,.slice a2 n2 c2] 28)) 28 [.bool s3,.slice a3 n3 c3,.bool s4,.slice a4 n4 c4]).alloc (.cells #[.bool false,.slice none 0 0,.bool false,.slice none 0 0] 28));have HB3:=qh (Bxs.new ((w.alloc (.cells #[.bool s1,.slice a1 n1 c1,.bool s2,.slice a2 n2 c2] 28)).alloc (.cells #[.bool s3,.slice a3 n3 c3,.bool s4,.slice a4 n4 c4] 28)) 28 [.bool false,.slice none 0 0,.bool false,.slice none 0 0]);obtain⟨W,hW⟩:∃ W,W=((w.alloc (.cells #[.bool s1,.slice a1 n1 c1,.bool s2,.slice a2 n2 c2] 28)).alloc (.cells #[.bool s3,.slice a3 n3 c3,.bool s4,.slice a4 n4 c4] 28)).alloc (.cells #[.bool false,.slice none 0 0,.bool false,.slice none 0 0] 28):=⟨_,rfl⟩;have KG:=qh (show Below w.heap.size w W by rw[hW];exact((zk.alloc zj _).alloc (by go_size) _).alloc (by go_size) _)
 have hWs:w.heap.size+3=W.heap.size:=by rw[hW];simp
 have HB1:=qh (show Bxs W w.heap.size 28 [.bool s1,.slice a1 n1 c1,.bool s2,.slice a2 n2 c2] by rw[hW];exact HB1.o);have HB2:=qh (show Bxs W (w.heap.size+1) 28 [.bool s3,.slice a3 n3 c3,.bool s4,.slice a4 n4 c4] by have h:=HB2.o;simp only[World.size_alloc] at h;rw[hW];exact h);have HB3:=qh (show Bxs W (w.heap.size+1+1) 28 [.bool false,.slice none 0 0,.bool false,.slice none 0 0] by have h:=HB3.o;simp only[World.size_alloc] at h;rw[hW];exact h)
 have BR:=qh (Uh 207 #[] (x.num*(y.den:Int)+y.num*(x.den:Int)) s1 a1 n1 c1 o1 s2 a2 n2 c2 o2 s3 a3 n3 c3 o3 s4 a4 n4 c4 o4 W x y hx hy (h1.below KG.o) hn1 hc1 (h2.below KG.o) hn2 hc2 (h3.below KG.o) hn3 hc3 (h4.below KG.o) hn4 hc4
  (fun _ _=>rfl)
  (by have:=Kj (x.num*(y.den:Int)) (y.num*(x.den:Int));omega)
  (fun m1 m2 w1 _ r1 r2=>by
   have h:=addc_any (decide (x.num*(y.den:Int)<0)) m1 _ (Ja (x.num*(y.den:Int)).natAbs) _ (decide (y.num*(x.den:Int)<0)) m2 _ (Ja (y.num*(x.den:Int)).natAbs) _ w1 r1 (by omega) zj r2 (by omega) zj;rw[Jj,Jj] at h
   exact h))
 have hT:Rat.divInt (x.num*(y.den:Int)+y.num*(x.den:Int)) ((x.den:Int)*(y.den:Int))=x+y:=YY x y;rw[hT] at BR;obtain⟨t,ht⟩:∃ t,t=x+y:=⟨_,rfl⟩;rw[<- ht] at BR ⊢;have HW:=qh hW;have HWS:=qh hWs;clear hW hWs h1 h2 h3 h4 hT ht hx hy l1 l2 hl1 hl2;go_enter Tryz.func126,Tryz.ntmps126
 go_upto_region 1 with (fail)
 rw[show((w.alloc (.cells #[.bool s1,.slice a1 n1 c1,.bool s2,.slice a2 n2 c2] 28)).alloc (.cells #[.bool s3,.slice a3 n3 c3,.bool s4,.slice a4 n4 c4] 28)).alloc (.cells #[.bool false,.slice none 0 0,.bool false,.slice none 0 0] 28)=W from HW.o.symm];clear HW;obtain⟨x0,x1,x2,x3,x4,x5⟩:=Ji HB1.o;obtain⟨y0,y1,y2,y3,y4,y5⟩:=Ji HB2.o;go_wp2_with fail
 with_reducible refine BR.o.mono ?_
 rintro e w4 ⟨r1,r2,rfl,Q1,Q2,hap,hb⟩;have M3:=qh (HB3.o.bl hb);have KG:=qk KG hb;have hvs:=HWS.o;have h2s:=hb.size;clear x0 x1 x2 x3 x4 x5 y0 y1 y2 y3 y4 y5 HB1 HB2 HB3 BR hb;obtain⟨z0,z1,z2,z3,zf,zl⟩:=Ji M3.o;go_wp2_with fail
 refine bodyPost_ret (Je rfl _ _ _ _ _ _ _ rfl ((((M3.o.put 0 _).put 1 _).put 2 _).put 3 _) Tryz.underlying28 rfl (by kernel_rfl)) rfl ⟨r1,r2,rfl,?_,?_,hap,?_⟩
 ·exact((((Q1.oz).oz).oz).oz).mono (by omega)
 ·exact((((Q2.oz).oz).oz).oz).mono (by omega)
 ·exact(((KG.o.sc).sc).sc).sc
theorem YZ (s1:Bool) (a1:Option Addr) (n1 c1:Nat) (s2:Bool) (a2:Option Addr) (n2 c2:Nat) (w:World):(Instr.field 28 (Qg s1 a1 n1 c1 s2 a2 n2 c2) 0).run Tryz.prog w=.ok (Jy s1 a1 n1 c1) w:=by kernel_rfl
theorem jfu (s1:Bool) (a1:Option Addr) (n1 c1:Nat) (o1:Nat->Int) (s2:Bool) (a2:Option Addr) (n2 c2:Nat) (o2:Nat->Int) (w:World) (x:Rat) (hx:x=Xh s1 n1 o1 s2 n2 o2)
  (h1:Rd w a1 n1 o1) (hn1:n1<=1000000) (hc1:n1<=c1) (h2:Rd w a2 n2 o2) (hn2:n2<=1000000) (hc2:n2<=c2) :
  Calls Tryz.prog 139 #[Qg s1 a1 n1 c1 s2 a2 n2 c2] w fun e w'=>e=.returned (.int .i64 (JB x.num 0))/\Below w.heap.size w w':=by
 have hfar:∀ {a:Option Addr} {n:Nat} {o:Nat->Int},Rd w a n o->0<n->∀ p,a=some p->p.block<w.heap.size:=fun h h0 p hp=>by
  obtain⟨b,off,e,hc⟩:=h.cells h0
  rw[e] at hp;cases hp
  exact block_lt_of_cell (hc 0 h0)
 have l1:=Qa (s1:=s1) (s2:=s2) h1.rng h2.rng;rw[<- hx] at l1;have HL:=qh (show Ja x.num.natAbs<=1000001 by omega);have HB1:=qh (Bxs.new w 28 [.bool s1,.slice a1 n1 c1,.bool s2,.slice a2 n2 c2]);obtain⟨W,hW⟩:∃ W,W=w.alloc (.cells #[.bool s1,.slice a1 n1 c1,.bool s2,.slice a2 n2 c2] 28):=⟨_,rfl⟩;have KG:=qh (show Below w.heap.size w W by rw[hW];exact zk.alloc zj _);have HB1:=qh (show Bxs W w.heap.size 28 [.bool s1,.slice a1 n1 c1,.bool s2,.slice a2 n2 c2] by rw[hW];exact HB1.o);have OX:=qh (Zq s1 a1 n1 c1 o1 s2 a2 n2 c2 o2 W w.heap.size KG.o.size (h1.below KG.o) (by omega) hc1 (hfar h1) (h2.below KG.o) (by omega) hc2 (hfar h2));rw[<- hx] at OX;obtain⟨p,hp⟩:∃ p,p=x.num:=⟨_,rfl⟩;obtain⟨q,hq⟩:∃ q:Int,q=(x.den:Int):=⟨_,rfl⟩;rw[<- hp,<- hq] at OX;rw[<- hp] at HL ⊢;have HW:=qh hW;clear hW h1 h2 l1 hfar hx hp hq;go_enter Tryz.func139,Tryz.ntmps139
 go_upto_region 1 with (fail)
 rw[show w.alloc (.cells #[.bool s1,.slice a1 n1 c1,.bool s2,.slice a2 n2 c2] 28)=W from HW.o.symm];clear HW;obtain⟨x0,x1,x2,x3,x4,x5⟩:=Ji HB1.o;go_wp2_with fail
 with_reducible refine OX.o.mono ?_
 intro e w2 hh;obtain⟨⟨za,zc,zb,zd⟩,rfl,hi,hb⟩:=QK hh;have hff:=YZ (decide (p<0)) za (Ja p.natAbs) zc (decide (q<0)) zb (Ja q.natAbs) zd w2;have SG:=qh (Vk (decide (p<0)) za (Ja p.natAbs) zc (dgi p.natAbs) w2 hi.r1.rd (by have:=HL.o;omega) hi.c1);rw[Jj] at SG;have KG:=qk KG hb;clear hh hi hb OX x0 x1 x2 x3 x4 x5 HB1;go_wp2_with fail
 with_reducible refine SG.o.mono ?_
 rintro e w3 ⟨rfl,hb⟩;have KG:=qk KG hb;clear hb SG;go_wp2_with fail
 go_ret;exact⟨rfl,KG.o⟩
theorem Ya (x:Rat):okF (decide (x.num<0)) (Ja x.num.natAbs) (dgi x.num.natAbs) (decide ((x.den:Int)<0)) (Ja (x.den:Int).natAbs) (dgi (x.den:Int).natAbs):=by
 refine⟨J9 _,J9 _,?_,?_⟩
 ·rw[Jj];exact QE x
 ·rw[Jj,Jj];exact rat_gcd x
theorem ZU (x:Rat):Xh (decide (x.num<0)) (Ja x.num.natAbs) (dgi x.num.natAbs) (decide ((x.den:Int)<0)) (Ja (x.den:Int).natAbs) (dgi (x.den:Int).natAbs)=x:=by
 obtain⟨e1,e2⟩:=Ku (Ya x);rw[Jj] at e1 e2;exact Rat.ext e1 (by omega)
theorem mulc_any (bx bz:Nat) (p r:Int) (a1:Option Addr) (c1:Nat) (a2:Option Addr) (n2 c2:Nat) (s2:Bool) (a3:Option Addr) (c3:Nat) (a4:Option Addr) (n4 c4:Nat) (s4:Bool) (ta tb:Bool) (ua ub:Option Addr) (na ca nb cb:Nat) (w:World)
  (hbx:Bxs w bx 28 [.bool (decide (p<0)),.slice a1 (Ja p.natAbs) c1,.bool s2,.slice a2 n2 c2]) (hbz:Bxs w bz 28 [.bool (decide (r<0)),.slice a3 (Ja r.natAbs) c3,.bool s4,.slice a4 n4 c4])
  (h1:Rd w a1 (Ja p.natAbs) (dgi p.natAbs)) (hn1:Ja p.natAbs<=100000000) (hc1:Ja p.natAbs<=c1) (h2:Rd w a3 (Ja r.natAbs) (dgi r.natAbs)) (hn2:Ja r.natAbs<=100000000) (hc2:Ja r.natAbs<=c3) :
  Calls Tryz.prog 173 #[Jy ta ua na ca,Jy tb ub nb cb,.pointer (some ⟨bx,0,none⟩),.pointer (some ⟨bz,0,none⟩)] w (Yk w (p*r)):=by
 have HB1:=qh (((hbx.alloc (.cells #[.bool ta,.slice ua na ca] 26)).alloc (.cells #[.bool tb,.slice ub nb cb] 26)).alloc (.cells #[.bool false,.slice none 0 0] 26));have HB2:=qh (((hbz.alloc (.cells #[.bool ta,.slice ua na ca] 26)).alloc (.cells #[.bool tb,.slice ub nb cb] 26)).alloc (.cells #[.bool false,.slice none 0 0] 26));have HB3:=qh (Bxs.new ((w.alloc (.cells #[.bool ta,.slice ua na ca] 26)).alloc (.cells #[.bool tb,.slice ub nb cb] 26)) 26 [.bool false,.slice none 0 0]);obtain⟨W,hW⟩:∃ W,W=((w.alloc (.cells #[.bool ta,.slice ua na ca] 26)).alloc (.cells #[.bool tb,.slice ub nb cb] 26)).alloc (.cells #[.bool false,.slice none 0 0] 26):=⟨_,rfl⟩;have KG:=qh (show Below w.heap.size w W by rw[hW];exact((zk.alloc zj _).alloc (by go_size) _).alloc (by go_size) _)
 have hWs:w.heap.size+3=W.heap.size:=by rw[hW];simp
 rw[<- hW] at HB1 HB2;have HB3:=qh (show Bxs W (w.heap.size+1+1) 26 [.bool false,.slice none 0 0] by have h:=HB3.o;simp only[World.size_alloc] at h;rw[hW];exact h);have BR:=qh (YT (decide (p<0)) a1 (Ja p.natAbs) c1 (dgi p.natAbs) (decide (r<0)) a3 (Ja r.natAbs) c3 (dgi r.natAbs) W (h1.below KG.o) hn1 hc1 (h2.below KG.o) hn2 hc2);rw[Jj,Jj] at BR;obtain⟨T,hT⟩:∃ T,T=p*r:=⟨_,rfl⟩;rw[<- hT] at BR ⊢;have HW:=qh hW;have HWS:=qh hWs;clear hW hWs h1 h2 hT hbx hbz;go_enter Tryz.func173,Tryz.ntmps173
 go_upto_region 1 with (fail)
 rw[show((w.alloc (.cells #[.bool ta,.slice ua na ca] 26)).alloc (.cells #[.bool tb,.slice ub nb cb] 26)).alloc (.cells #[.bool false,.slice none 0 0] 26)=W from HW.o.symm];clear HW;obtain⟨x0,x1,x2,x3,x4,x5⟩:=Ji HB1.o;obtain⟨y0,y1,y2,y3,y4,y5⟩:=Ji HB2.o;go_wp2_with fail
 with_reducible refine BR.o.mono ?_
 rintro e w2 ⟨m,rfl,O1,hm,hb⟩;have M3:=qh (HB3.o.bl hb);have KG:=qk KG hb;have hvs:=HWS.o;have h2s:=hb.size;clear x0 x1 x2 x3 x4 x5 y0 y1 y2 y3 y4 y5 HB1 HB2 HB3 BR hb;obtain⟨z0,z1,z2,z3⟩:=M3.o.bx.all;go_wp2_with fail
 refine bodyPost_ret (Je rfl _ _ _ _ _ _ _ rfl ((M3.o.put 0 _).put 1 _) Tryz.underlying26 rfl (by kernel_rfl)) rfl ⟨m,rfl,?_,hm,?_⟩
 ·exact((O1.oz).oz).mono (by omega)
 ·exact(KG.o.sc).sc
end Limb
namespace Book
open Go.RowKit Go.Sort Go.FreshG Limb
structure HL where
 a:Option Addr
 n:Nat
 c:Nat
 q:Nat
def HL.row (h:HL):List Value:=held h.a h.n h.c h.q
theorem HL.snoc (L:List HL) (a:Option Addr) (n c q:Nat):(L++[(⟨a,n,c,q⟩:HL)]).flatMap HL.row=L.flatMap HL.row++held a n c q:=by
 rw[List.flatMap_append,List.flatMap_cons,List.flatMap_nil,List.append_nil];rfl
structure BkS (w:World) (b base q:Nat) (L M:List HL):Prop where
 ex:∃ v u,Bk2 w b base q L.length M.length v u (L.flatMap HL.row) (M.flatMap HL.row)/\(L=[]->v=.slice none 0 0)/\(M=[]->u=.slice none 0 0)
 hb:base<=b
 hw:base<=w.heap.size
def rowB (T:TypeId):Bool:=T==53 || T==159 || T==152
structure Qw (base:Nat) (w w':World):Prop where
 bel:Below base w w'
 rows:∀ (g:Nat) (c:Array Value) (T:TypeId),w.heap[g]?=some (.cells c T (0,0))->rowB T=false->w'.heap[g]?=w.heap[g]?
theorem Qw.trans {base:Nat} {u v w:World} (h:Qw base u v) (g:Qw base v w):Qw base u w:=⟨h.bel.trans g.bel,fun k c T hk hT=>(g.rows k c T ((h.rows k c T hk hT).trans hk) hT).trans (h.rows k c T hk hT)⟩
theorem Qw.refl (base:Nat) (w:World):Qw base w w:=⟨zk,fun _ _ _ _ _=>rfl⟩
theorem Qw.alloc {base:Nat} {w:World} (hw:base<=w.heap.size) (o:Obj):Qw base w (w.alloc o):=⟨zk.alloc hw o,fun g c T hg _=>heap_alloc_old w o (by
 exact Classical.byContradiction fun h=>by rw[Array.getElem?_eq_none (by omega)] at hg;cases hg)⟩
theorem Bxs.Q4 {base:Nat} {w w':World} {b:Nat} {T:TypeId} {l:List Value} (h:Bxs w b T l) (hk:Qw base w w') (hT:rowB T=false):Bxs w' b T l:=(hk.rows b _ T h hT).trans h
def Y0 (b base q:Nat) (L M:List HL) (w:World) (e:Ending) (w':World):Prop:=(∃ r,e=.returned r)/\BkS w' b base q L M/\Qw base w w'
theorem jbw {w:World} {base sz k:Nat} {T:TypeId} {v:Value} {xs:List Value} (h:w.ownsRow base T sz v k xs) {g:Nat} (hg:v.ownBlock=some g):base<=g/\∃ cur,w.heap[g]?=some (.cells cur T (0,0)):=by
 rcases h.2 with ⟨rfl,-⟩ | ⟨g2,cap,cur,rfl,hlo,hg2,-⟩
 ·cases hg
 ·have e:some g2=some g:=hg
  injection e with e
  subst e;exact⟨hlo,cur,hg2⟩
theorem Y1 {w w':World} {b base q k kt:Nat} {v u:Value} {xs ys:List Value} (hB:Bk2 w b base q k kt v u xs ys) (hb:base<=b) (hw:base<=w.heap.size) {x:Value} (hx:x=v\/x=u) (ht:Touch (fun g=>g=b\/x.ownBlock=some g) w w'):Qw base w w':=by
 have hty:∀ g,x.ownBlock=some g->base<=g/\∃ cur T,w.heap[g]?=some (.cells cur T (0,0))/\rowB T=true:=fun g hg=>by
  rcases hx with rfl | rfl
  ·obtain⟨h1,cur,h2⟩:=jbw hB.Uj hg;exact⟨h1,cur,_,h2,rfl⟩
  ·obtain⟨h1,cur,h2⟩:=jbw hB.rowT hg;exact⟨h1,cur,_,h2,rfl⟩
 refine⟨⟨ht.os,ht.tape,ht.output,ht.size,fun g hg=>ht.block g (by omega) ?_⟩,fun g c T hg hT=>ht.block g ?_ ?_⟩
 ·rintro(rfl | h)
  ·omega
  ·have:=(hty g h).1;omega
 ·exact Classical.byContradiction fun h=>by rw[Array.getElem?_eq_none (by omega)] at hg;cases hg
 ·rintro(rfl | h)
  ·obtain⟨cur,h2,-⟩:=hB.box;rw[hg] at h2
   have:T=53:=by injection h2 with h2;injection h2
   subst this;exact absurd hT (by decide)
  ·obtain⟨-,cur,T2,h2,h3⟩:=hty g h;rw[hg] at h2
   have:T=T2:=by injection h2 with h2;injection h2
   subst this;rw[hT] at h3
   cases h3
theorem BkS.keepL {w:World} {b base q:Nat} {L M:List HL} (h:BkS w b base q L M) (hk:L.length<=30000) (hq:q<=60000) (a:Option Addr) (n c:Nat) :
  Calls Tryz.prog 243 #[.pointer (some ⟨b,0,none⟩),.slice a n c] w (Y0 b base (q+1) (L++[⟨a,n,c,q⟩]) M w):=by
 obtain⟨v,u,hB,e1,e2⟩:=h.ex;refine(jfp b base q L.length M.length v u _ _ a n c w hk hq hB h.hw).mono ?_;rintro e w' ⟨hr,v',hB',-,ht⟩;refine⟨hr,⟨⟨v',u,?_,fun h=>absurd h (by simp),e2⟩,h.hb,zm h.hw ht.size⟩,Y1 hB h.hb h.hw (Or.inl rfl) ht⟩;rw[HL.snoc,List.length_append];exact hB'
theorem BkS.keepT {w:World} {b base q:Nat} {L M:List HL} (h:BkS w b base q L M) (hk:M.length<=30000) (hq:q<=60000) (a:Option Addr) (n c:Nat) :
  Calls Tryz.prog 84 #[.pointer (some ⟨b,0,none⟩),.slice a n c] w (Y0 b base (q+1) L (M++[⟨a,n,c,q⟩]) w):=by
 obtain⟨v,u,hB,e1,e2⟩:=h.ex;refine(jfq b base q L.length M.length v u _ _ a n c w hk hq hB h.hw).mono ?_;rintro e w' ⟨hr,v',hB',-,ht⟩;refine⟨hr,⟨⟨v,v',?_,e1,fun h=>absurd h (by simp)⟩,h.hb,zm h.hw ht.size⟩,Y1 hB h.hb h.hw (Or.inr rfl) ht⟩;rw[HL.snoc,List.length_append];exact hB'
theorem BkS.alloc {w:World} {b base q:Nat} {L M:List HL} (h:BkS w b base q L M) (o:Obj):BkS (w.alloc o) b base q L M:=by
 obtain⟨v,u,hB,e1,e2⟩:=h.ex;exact⟨⟨v,u,hB.alloc o,e1,e2⟩,h.hb,by rw[World.size_alloc];have:=h.hw;omega⟩
theorem BkS.limbs {w:World} {b base q:Nat} {L M:List HL} (h:BkS w b base q L M) (hk:L.length<=30000) (hq:q<=60000) (a:Option Addr) (n c:Nat) :
  Calls Tryz.prog 178 #[.pointer (some ⟨b,0,none⟩),.slice a n c] w (Y0 b base (q+1) (L++[⟨a,n,c,q⟩]) M w):=by
 have K:=qh (h.keepL hk hq a n c);clear h;go_enter Tryz.func178,Tryz.ntmps178;go_wp2_with fail
 refine K.o.mono ?_;rintro e w1 ⟨⟨r,rfl⟩,h⟩;have H:=qh h;clear h;go_wp2_with fail
 (try simp only[Exit.inBlock,Exit.then])
 refine bodyPost_end (results_none rfl _ _ _) rfl ?_;exact⟨⟨_,rfl⟩,H.o⟩
theorem BkS.num {w:World} {b base q:Nat} {L M:List HL} (h:BkS w b base q L M) (hk:L.length<=30000) (hq:q<=60000) (s:Bool) (a:Option Addr) (n c:Nat) :
  Calls Tryz.prog 85 #[.pointer (some ⟨b,0,none⟩),.agg #[.bool s,.slice a n c]] w (Y0 b base (q+1) (L++[⟨a,n,c,q⟩]) M w):=by
 have K:=qh ((h.alloc (.cells #[.bool s,.slice a n c] 26)).limbs hk hq a n c);have HA:=qh (Qw.alloc h.hw (.cells #[.bool s,.slice a n c] 26));clear h;go_enter Tryz.func85,Tryz.ntmps85;go_wp2_with fail
 refine K.o.mono ?_;rintro e w1 ⟨⟨r,rfl⟩,h⟩;have H:=qh h;clear h;go_wp2_with fail
 (try simp only[Exit.inBlock,Exit.then])
 refine bodyPost_end (results_none rfl _ _ _) rfl ?_;exact⟨⟨_,rfl⟩,H.o.1,HA.o.trans H.o.2⟩
def fracL (L:List HL) (q:Nat) (a1:Option Addr) (n1 c1:Nat) (a2:Option Addr) (n2 c2:Nat):List HL:=L++[⟨a1,n1,c1,q⟩]++[⟨a2,n2,c2,q+1⟩]
theorem BkS.frac {w:World} {b base q:Nat} {L M:List HL} (h:BkS w b base q L M) (hk:L.length<=29990) (hq:q<=59990) (s1:Bool) (a1:Option Addr) (n1 c1:Nat) (s2:Bool) (a2:Option Addr) (n2 c2:Nat) :
  Calls Tryz.prog 24 #[.pointer (some ⟨b,0,none⟩),.agg #[.bool s1,.slice a1 n1 c1,.bool s2,.slice a2 n2 c2]] w (Y0 b base (q+2) (fracL L q a1 n1 c1 a2 n2 c2) M w):=by
 obtain⟨V,hV⟩:∃ V,V=w.alloc (.cells #[.bool s1,.slice a1 n1 c1,.bool s2,.slice a2 n2 c2] 28):=⟨_,rfl⟩;have HS:=qh (show BkS V b base q L M by rw[hV];exact h.alloc _);have HA:=qh (show Qw base w V by rw[hV];exact Qw.alloc h.hw _);have B3:=qh (show Bxs V w.heap.size 28 [.bool s1,.slice a1 n1 c1,.bool s2,.slice a2 n2 c2] by rw[hV];exact Bxs.new w 28 [.bool s1,.slice a1 n1 c1,.bool s2,.slice a2 n2 c2]);have HK:=qh hk;have HQ:=qh hq;have HV:=qh hV;have K:=qh (HS.o.num (by omega) (by omega) s1 a1 n1 c1);clear h hk hq hV;go_enter Tryz.func24,Tryz.ntmps24
 go_upto_region 1 with (fail)
 rw[show w.alloc (.cells #[.bool s1,.slice a1 n1 c1,.bool s2,.slice a2 n2 c2] 28)=V from HV.o.symm];have c0:=B3.o.ce 0;have c1':=B3.o.ce 1;have c2':=B3.o.ce 2;have c3:=B3.o.ce 3;go_wp2_with fail
 refine K.o.mono ?_;rintro e w1 ⟨⟨r,rfl⟩,hs,hk⟩;have HS:=qh hs;have B3:=qh (Bxs.Q4 B3.o hk rfl);have HA:=qh (HA.o.trans hk);have K:=qh (hs.num (by rw[List.length_append];have:=HK.o;simp;omega) (by have:=HQ.o;omega) s2 a2 n2 c2);clear hs hk c0 c1' c2' c3;have c0:=B3.o.ce 0;have c1':=B3.o.ce 1;have c2':=B3.o.ce 2;have c3:=B3.o.ce 3;go_wp2_with fail
 refine K.o.mono ?_;rintro e w2 ⟨⟨r,rfl⟩,h⟩;have H:=qh h;clear h c0 c1' c2' c3;go_wp2_with fail
 (try simp only[Exit.inBlock,Exit.then])
 refine bodyPost_end (results_none rfl _ _ _) rfl ?_;exact⟨⟨_,rfl⟩,H.o.1,HA.o.trans H.o.2⟩
end Book
namespace Limb
open Go.RowKit Go.Sort Go.Fresh
theorem fmul_any (s1:Bool) (a1:Option Addr) (n1 c1:Nat) (o1:Nat->Int) (s2:Bool) (a2:Option Addr) (n2 c2:Nat) (o2:Nat->Int) (s3:Bool) (a3:Option Addr) (n3 c3:Nat) (o3:Nat->Int) (s4:Bool) (a4:Option Addr) (n4 c4:Nat) (o4:Nat->Int) (w:World) (x y:Rat)
  (hx:x=Xh s1 n1 o1 s2 n2 o2) (hy:y=Xh s3 n3 o3 s4 n4 o4)
  (h1:Rd w a1 n1 o1) (hn1:n1<=900000) (hc1:n1<=c1) (h2:Rd w a2 n2 o2) (hn2:n2<=900000) (hc2:n2<=c2) (h3:Rd w a3 n3 o3) (hn3:n3<=900000) (hc3:n3<=c3) (h4:Rd w a4 n4 o4) (hn4:n4<=900000) (hc4:n4<=c4) :
  Calls Tryz.prog 71 #[Qg s1 a1 n1 c1 s2 a2 n2 c2,Qg s3 a3 n3 c3 s4 a4 n4 c4] w (Zi w (x*y).num ((x*y).den:Int)):=by
 have hfar:∀ {a:Option Addr} {n:Nat} {o:Nat->Int},Rd w a n o->0<n->∀ p,a=some p->p.block<w.heap.size:=fun h h0 p hp=>by
  obtain⟨b,off,e,hc⟩:=h.cells h0
  rw[e] at hp;cases hp
  exact block_lt_of_cell (hc 0 h0)
 have OX:=qh (fun (w':World) (hb:Below w.heap.size w w')=>Zq s1 a1 n1 c1 o1 s2 a2 n2 c2 o2 w' w.heap.size hb.size (h1.below hb) (by omega) hc1 (hfar h1) (h2.below hb) (by omega) hc2 (hfar h2));have OY:=qh (fun (w':World) (hb:Below w.heap.size w w')=>Zq s3 a3 n3 c3 o3 s4 a4 n4 c4 o4 w' w.heap.size hb.size (h3.below hb) (by omega) hc3 (hfar h3) (h4.below hb) (by omega) hc4 (hfar h4));have l1:=Qa (s1:=s1) (s2:=s2) h1.rng h2.rng;have l2:=Qa (s1:=s3) (s2:=s4) h3.rng h4.rng;rw[<- hx] at OX l1;rw[<- hy] at OY l2;obtain⟨p,hp⟩:∃ p,p=x.num:=⟨_,rfl⟩;obtain⟨q,hq⟩:∃ q:Int,q=(x.den:Int):=⟨_,rfl⟩;obtain⟨r,hr⟩:∃ r,r=y.num:=⟨_,rfl⟩;obtain⟨t,ht⟩:∃ t:Int,t=(y.den:Int):=⟨_,rfl⟩;rw[<- hp,<- hq] at OX l1;rw[<- hr,<- ht] at OY l2;have HP:=qh (And.intro hp (And.intro hq (And.intro hr ht)));obtain⟨z,hz⟩:∃ z,z=x*y:=⟨_,rfl⟩;rw[<- hz];have HZ:=qh hz;clear hz;have HL:=qh (show(Ja p.natAbs<=900001/\Ja q.natAbs<=900001)/\Ja r.natAbs<=900001/\Ja t.natAbs<=900001 by omega);clear hp hq hr ht hx hy h1 h2 h3 h4 l1 l2 hfar;have HB1:=qh (((Bxs.new w 28 [.bool s1,.slice a1 n1 c1,.bool s2,.slice a2 n2 c2]).alloc (.cells #[.bool s3,.slice a3 n3 c3,.bool s4,.slice a4 n4 c4] 28)).alloc (.cells #[.bool false,.slice none 0 0,.bool false,.slice none 0 0] 28));have HB2:=qh (((Bxs.new (w.alloc (.cells #[.bool s1,.slice a1 n1 c1,.bool s2,.slice a2 n2 c2] 28)) 28 [.bool s3,.slice a3 n3 c3,.bool s4,.slice a4 n4 c4]).alloc (.cells #[.bool false,.slice none 0 0,.bool false,.slice none 0 0] 28)));have HB4:=qh ((Bxs.new ((w.alloc (.cells #[.bool s1,.slice a1 n1 c1,.bool s2,.slice a2 n2 c2] 28)).alloc (.cells #[.bool s3,.slice a3 n3 c3,.bool s4,.slice a4 n4 c4] 28)) 28 [.bool false,.slice none 0 0,.bool false,.slice none 0 0]))
 obtain⟨W,hW⟩:∃ W,W=((w.alloc (.cells #[.bool s1,.slice a1 n1 c1,.bool s2,.slice a2 n2 c2] 28)).alloc (.cells #[.bool s3,.slice a3 n3 c3,.bool s4,.slice a4 n4 c4] 28)).alloc (.cells #[.bool false,.slice none 0 0,.bool false,.slice none 0 0] 28):=⟨_,rfl⟩;have KG:=qh (show Below w.heap.size w W by rw[hW];exact((zk.alloc zj _).alloc (by go_size) _).alloc (by go_size) _)
 have hWs:w.heap.size+3=W.heap.size:=by rw[hW];simp
 have HB1:=qh (show Bxs W w.heap.size 28 [.bool s1,.slice a1 n1 c1,.bool s2,.slice a2 n2 c2] by rw[hW];exact HB1.o);have HB2:=qh (show Bxs W (w.heap.size+1) 28 [.bool s3,.slice a3 n3 c3,.bool s4,.slice a4 n4 c4] by have h:=HB2.o;simp only[World.size_alloc] at h;rw[hW];exact h);have HB4:=qh (show Bxs W (w.heap.size+1+1) 28 [.bool false,.slice none 0 0,.bool false,.slice none 0 0] by have h:=HB4.o;simp only[World.size_alloc] at h;rw[hW];exact h);have HW:=qh hW;have HWS:=qh hWs;clear hW hWs;go_enter Tryz.func71,Tryz.ntmps71
 go_upto_region 1 with (fail)
 rw[show((w.alloc (.cells #[.bool s1,.slice a1 n1 c1,.bool s2,.slice a2 n2 c2] 28)).alloc (.cells #[.bool s3,.slice a3 n3 c3,.bool s4,.slice a4 n4 c4] 28)).alloc (.cells #[.bool false,.slice none 0 0,.bool false,.slice none 0 0] 28)=W from HW.o.symm];clear HW;have HS:=qh (fun (w':World) (hb:Below W.heap.size W w')=>And.intro (Ji (HB1.o.bl hb)) (Ji (HB2.o.bl hb)))
 refine Jc 3 (JM [(1,Sp.made (jc5 p q) (fun x w'=>QF w' w.heap.size (w.heap.size+3) p q x))]) (fun w'=>Below W.heap.size W w') (by kernel_rfl) (by kernel_rfl)
  (Jd (Sp.Jg fun x w w' h hb=>h.below hb) Jl) (fun _ _ h hb=>h.trans (hb.mono h.size)) (zk.drew) ?_
 simp only[zx,zy,zv,zw]
 (refine Jb rfl rfl ?_ (fun w' hw'=>?_) ?_;rotate_left;· (have hb':=Has.world hw';(obtain⟨x0,x1,x2,x3,x4,x5⟩:=(HS.o _ hb').1);clear hw';go_simp;try rfl))
 conv=>arg 9;simp only[Act.put,zq0,zq1,zq2]
 refine Jf rfl rfl (fun w' hw'=>?_) ?_
 ·have hb':=hw'.world;go_simp;refine(OX.o w' (KG.o.trans (hb'.mono KG.o.size))).mono ?_;intro e w'' hh;obtain⟨z,rfl,hi,hb⟩:=QK hh;exact⟨_,rfl,⟨⟨z.1,z.2.1,z.2.2.1,z.2.2.2,rfl⟩,⟨z.1,z.2.1,z.2.2.1,z.2.2.2,rfl,hi.up (by have:=hb'.size;have:=HWS.o;omega)⟩⟩,hb⟩
 rintro _ ⟨xa,rfl⟩
 conv=>arg 9;simp only[Act.put,zq0,zq1,zq2]
 (refine Jb rfl rfl ?_ (fun w' hw'=>?_) ?_;rotate_left;· (have hb':=Has.world hw';(obtain⟨x0,x1,x2,x3,x4,x5⟩:=(HS.o _ hb').2);clear hw';go_simp;try rfl))
 conv=>arg 9;simp only[Act.put,zq0,zq1,zq2]
 refine Jn (fun w1 hb1 hF=>?_);have HXA:=qh (jbv (hF 1));have GB:=qh hb1;clear hF hb1;go_wp2_with fail
 have OY1:=qh (OY.o w1 (KG.o.trans (GB.o.mono KG.o.size)));clear OX OY HS;with_reducible refine OY1.o.mono ?_
 intro e w2 hh;obtain⟨yb,rfl,hi,hb⟩:=QK hh;have HYB:=qh (hi.up (show w.heap.size+3<=w1.heap.size by have:=GB.o.size;have:=HWS.o;omega));have HXA:=qh (HXA.o.below hb);have GB:=qk GB hb;clear hh hi hb OY1;have M1:=qh (HB1.o.below GB.o HB1.o.lt);have M2:=qh (HB2.o.below GB.o HB2.o.lt);have M4:=qh (HB4.o.below GB.o HB4.o.lt);obtain⟨x0,x1,x2,x3,x4,x5⟩:=Ji M1.o;obtain⟨y0,y1,y2,y3,y4,y5⟩:=Ji M2.o
 go_upto_region 2 with (fail)
 obtain⟨V,hV⟩:∃ V,V=((((((((w2.setCell ⟨w.heap.size,0,none⟩ (.bool (decide (p<0)))).setCell ⟨w.heap.size,1,none⟩ (.slice xa.1 (Ja p.natAbs) xa.2.1)).setCell ⟨w.heap.size,2,none⟩ (.bool (decide (q<0)))).setCell ⟨w.heap.size,3,none⟩ (.slice xa.2.2.1 (Ja q.natAbs) xa.2.2.2)).setCell ⟨w.heap.size+1,0,none⟩ (.bool (decide (r<0)))).setCell ⟨w.heap.size+1,1,none⟩ (.slice yb.1 (Ja r.natAbs) yb.2.1)).setCell ⟨w.heap.size+1,2,none⟩ (.bool (decide (t<0)))).setCell ⟨w.heap.size+1,3,none⟩ (.slice yb.2.2.1 (Ja t.natAbs) yb.2.2.2)):=⟨_,rfl⟩;have M1:=qh (show Bxs V w.heap.size 28 [.bool (decide (p<0)),.slice xa.1 (Ja p.natAbs) xa.2.1,.bool (decide (q<0)),.slice xa.2.2.1 (Ja q.natAbs) xa.2.2.2] by rw[hV];exact((((((((M1.o.put 0 _).put 1 _).put 2 _).put 3 _).oz).oz).oz).oz));have M2:=qh (show Bxs V (w.heap.size+1) 28 [.bool (decide (r<0)),.slice yb.1 (Ja r.natAbs) yb.2.1,.bool (decide (t<0)),.slice yb.2.2.1 (Ja t.natAbs) yb.2.2.2] by rw[hV];exact((((((((M2.o.oz).oz).oz).oz).put 0 _).put 1 _).put 2 _).put 3 _));have M4:=qh (show Bxs V (w.heap.size+1+1) 28 [.bool false,.slice none 0 0,.bool false,.slice none 0 0] by rw[hV];exact((((((((M4.o.oz).oz).oz).oz).oz).oz).oz).oz))
 have HXA:=qh (show QF V w.heap.size (w.heap.size+3) p q xa by rw[hV];exact((((((((HXA.o.sz).sz).sz).sz).sz).sz).sz).sz));have HYB:=qh (show QF V w.heap.size (w.heap.size+3) r t yb by rw[hV];exact((((((((HYB.o.sz).sz).sz).sz).sz).sz).sz).sz));have hG:=KG.o.trans (GB.o.mono KG.o.size);have KG:=qh (show Below w.heap.size w V by rw[hV];exact((((((((hG.sc).sc).sc).sc).sc).sc).sc).sc));rw[show((((((((w2.setCell ⟨w.heap.size,0,none⟩ (.bool (decide (p<0)))).setCell ⟨w.heap.size,1,none⟩ (.slice xa.1 (Ja p.natAbs) xa.2.1)).setCell ⟨w.heap.size,2,none⟩ (.bool (decide (q<0)))).setCell ⟨w.heap.size,3,none⟩ (.slice xa.2.2.1 (Ja q.natAbs) xa.2.2.2)).setCell ⟨w.heap.size+1,0,none⟩ (.bool (decide (r<0)))).setCell ⟨w.heap.size+1,1,none⟩ (.slice yb.1 (Ja r.natAbs) yb.2.1)).setCell ⟨w.heap.size+1,2,none⟩ (.bool (decide (t<0)))).setCell ⟨w.heap.size+1,3,none⟩ (.slice yb.2.2.1 (Ja t.natAbs) yb.2.2.2))=V from hV.symm]
 clear hV hG x0 x1 x2 x3 x4 x5 y0 y1 y2 y3 y4 y5 HB1 HB2 HB4 GB
 have MK:=qh (Uh 173 #[.pointer (some ⟨w.heap.size,0,none⟩),.pointer (some ⟨w.heap.size+1,0,none⟩)] (p*r) (decide (p<0)) xa.1 (Ja p.natAbs) xa.2.1 (dgi p.natAbs) (decide (q<0)) xa.2.2.1 (Ja q.natAbs) xa.2.2.2 (dgi q.natAbs) (decide (r<0)) yb.1 (Ja r.natAbs) yb.2.1 (dgi r.natAbs) (decide (t<0)) yb.2.2.1 (Ja t.natAbs) yb.2.2.2 (dgi t.natAbs) V x y
  (by rw[HP.o.1,HP.o.2.1];exact(ZU x).symm) (by rw[HP.o.2.2.1,HP.o.2.2.2];exact(ZU y).symm)
  HXA.o.r1.rd (by have:=HL.o;omega) HXA.o.c1 HXA.o.r2.rd (by have:=HL.o;omega) HXA.o.c2 HYB.o.r1.rd (by have:=HL.o;omega) HYB.o.c1 HYB.o.r2.rd (by have:=HL.o;omega) HYB.o.c2
  (fun _ _=>rfl) (by have h:=Ju p.natAbs r.natAbs;rw[<- Int.natAbs_mul] at h;have:=HL.o;omega)
  (fun m1 m2 w1 hb _ _=>mulc_any w.heap.size (w.heap.size+1) p r _ _ _ _ _ _ _ _ _ _ _ _ _ _ _ _ _ _ _ _ w1 (M1.o.bl hb) (M2.o.bl hb) (HXA.o.r1.rd.below hb) (by have:=HL.o;omega) HXA.o.c1 (HYB.o.r1.rd.below hb) (by have:=HL.o;omega) HYB.o.c1))
 rw[show Rat.divInt (p*r) ((x.den:Int)*(y.den:Int))=x*y by rw[HP.o.1,HP.o.2.2.1,Rat.mul_def',<- Rat.divInt_ofNat,Int.natCast_mul]] at MK;rw[<- HZ.o] at MK;have HVS:=qh (show w.heap.size+3<=V.heap.size by have:=M4.o.lt;omega);clear HZ HP HL HXA HYB;obtain⟨x0,x1,x2,x3,x4,x5⟩:=Ji M1.o;obtain⟨y0,y1,y2,y3,y4,y5⟩:=Ji M2.o;go_wp2_with fail
 with_reducible refine MK.o.mono ?_
 rintro e w4 ⟨r1,r2,rfl,Q1,Q2,hap,hb⟩;have M3:=qh (M4.o.bl hb);have KG:=qk KG hb;have hvs:=HVS.o;have h2s:=hb.size;clear x0 x1 x2 x3 x4 x5 y0 y1 y2 y3 y4 y5 M1 M2 M4 MK hb;obtain⟨z0,z1,z2,z3,zf,zl⟩:=Ji M3.o;go_wp2_with fail
 refine bodyPost_ret (Je rfl _ _ _ _ _ _ _ rfl ((((M3.o.put 0 _).put 1 _).put 2 _).put 3 _) Tryz.underlying28 rfl (by kernel_rfl)) rfl ⟨r1,r2,rfl,?_,?_,hap,?_⟩
 ·exact((((Q1.oz).oz).oz).oz).mono (by omega)
 ·exact((((Q2.oz).oz).oz).oz).mono (by omega)
 ·exact(((KG.o.sc).sc).sc).sc
end Limb
namespace Book
open Go.RowKit Go.Sort Limb
def QS (L:List HL) (j:Nat):HL:=L.getD j ⟨none,0,0,0⟩
theorem QS.mem {L:List HL} {j:Nat} (hj:j<L.length):QS L j∈L:=by
 unfold QS;rw[List.getD_eq_getElem?_getD,List.getElem?_eq_getElem hj];exact List.getElem_mem hj
theorem flat_get:∀ (L:List HL) (j d:Nat),j<L.length->d<3->(L.flatMap HL.row)[3*j+d]?=((QS L j).row)[d]?
 | [],_,_,h,_=>absurd h (Nat.not_lt_zero _)
 | h :: r,0,d,_,hd=>by
  rw[List.flatMap_cons,List.getElem?_append_left (by show 3*0+d<3;omega),Nat.mul_zero,Nat.zero_add]
  rfl
 | h :: r,j+1,d,hj,hd=>by
  rw[List.flatMap_cons,List.getElem?_append_right (by show 3<=3*(j+1)+d;omega)]
  have e:3*(j+1)+d-(HL.row h).length=3*j+d:=by show 3*(j+1)+d-3=_;omega
  rw[e,flat_get r j d (by rw[List.length_cons] at hj;omega) hd];rfl
theorem arr_ofL {w:World} {base:Nat} {v:Value} {L:List HL} (h:w.ownsRow base 159 3 v L.length (L.flatMap HL.row)) (h0:0<L.length) :
  ∃ g cap,v=.slice (some ⟨g,0,none⟩) L.length cap/\base<=g/\ZT (fun j=>(QS L j).q) w g L.length (fun j=>(QS L j).a) (fun j=>(QS L j).n) (fun j=>(QS L j).c) (fun _=>.slice none 0 0):=by
 obtain⟨g,cap,cur,rfl,hbg,hg,hnc,hcm,hcs,htake⟩:∃ g cap cur,v=.slice (some ⟨g,0,none⟩) L.length cap/\base<=g/\w.heap[g]?=some (.cells cur 159 (0,0))/\L.length<=cap/\cap<=maxLen/\cur.size=cap*3/\cur.toList.take (L.length*3)=L.flatMap HL.row:=by
  rcases h.2 with ⟨_,h⟩ | h
  ·omega
  ·exact h
 have cell:∀ j d,j<L.length->d<3->cur[3*j+d]?=((QS L j).row)[d]?:=by
  intro j d hj hd;have h:=flat_get L j d hj hd;rw[<- htake,List.getElem?_take,if_pos (by omega),Array.getElem?_toList] at h;exact h
 refine⟨g,cap,rfl,hbg,cap*3,fun i=>cur[i]?.getD undef,⟨cur,hg,hcs,fun i hi=>?_⟩,fun j hj=>⟨by omega,?_,?_,?_⟩⟩
 ·show cur[i]?=some ((cur[i]?).getD undef);rw[Array.getElem?_eq_getElem (by omega)];rfl
 ·have h:=cell j 0 hj (by omega);rw[Nat.add_zero] at h;show(cur[3*j]?).getD undef=_;rw[h];rfl
 ·show(cur[3*j+1]?).getD undef=_;rw[cell j 1 hj (by omega)];rfl
 ·show(cur[3*j+2]?).getD undef=_;rw[cell j 2 hj (by omega)];rfl
theorem jef {w:World} {base:Nat} {v:Value} {L:List HL} (h:w.ownsRow base 152 3 v L.length (L.flatMap HL.row)) (h0:0<L.length) :
  ∃ g cap,v=.slice (some ⟨g,0,none⟩) L.length cap/\base<=g/\ZL (fun j=>(QS L j).q) w g L.length (fun j=>(QS L j).a) (fun j=>(QS L j).n) (fun j=>(QS L j).c) (fun _=>.slice none 0 0):=by
 obtain⟨g,cap,cur,rfl,hbg,hg,hnc,hcm,hcs,htake⟩:∃ g cap cur,v=.slice (some ⟨g,0,none⟩) L.length cap/\base<=g/\w.heap[g]?=some (.cells cur 152 (0,0))/\L.length<=cap/\cap<=maxLen/\cur.size=cap*3/\cur.toList.take (L.length*3)=L.flatMap HL.row:=by
  rcases h.2 with ⟨_,h⟩ | h
  ·omega
  ·exact h
 have cell:∀ j d,j<L.length->d<3->cur[3*j+d]?=((QS L j).row)[d]?:=by
  intro j d hj hd;have h:=flat_get L j d hj hd;rw[<- htake,List.getElem?_take,if_pos (by omega),Array.getElem?_toList] at h;exact h
 refine⟨g,cap,rfl,hbg,cap*3,fun i=>cur[i]?.getD undef,⟨cur,hg,hcs,fun i hi=>?_⟩,fun j hj=>⟨by omega,?_,?_,?_⟩⟩
 ·show cur[i]?=some ((cur[i]?).getD undef);rw[Array.getElem?_eq_getElem (by omega)];rfl
 ·have h:=cell j 0 hj (by omega);rw[Nat.add_zero] at h;show(cur[3*j]?).getD undef=_;rw[h];rfl
 ·show(cur[3*j+1]?).getD undef=_;rw[cell j 1 hj (by omega)];rfl
 ·show(cur[3*j+2]?).getD undef=_;rw[cell j 2 hj (by omega)];rfl
def ZP (L:List HL):Prop:=L.Pairwise fun x y=>∀ p q:Addr,x.a=some p->y.a=some q->p.block≠q.block
theorem ZP.part {L:List HL} (h:ZP L):Part L.length fun j=>(QS L j).a:=by
 have key:∀ i j,i<j->i<L.length->j<L.length->∀ p q,(QS L i).a=some p->(QS L j).a=some q->p.block≠q.block:=by
  intro i j hij hi hj p q hp hq;have h:=List.pairwise_iff_getElem.1 h i j hi hj hij;unfold QS at hp hq;rw[List.getD_eq_getElem?_getD,List.getElem?_eq_getElem hi] at hp;rw[List.getD_eq_getElem?_getD,List.getElem?_eq_getElem hj] at hq;exact h p q hp hq
 intro i hi j hj hij p q hp hq
 rcases Nat.lt_or_ge i j with h | h
 ·exact key i j h hi hj p q hp hq
 ·exact fun e=>key j i (by omega) hj hi q p hq hp e.symm
theorem BkS.apart {w:World} {b base q lo:Nat} {L M:List HL} (h:BkS w b base q L M) (h0:0<L.length) (h1:0<M.length) (hk:L.length<=30000) (hkt:M.length<=30000) (hq:∀ x∈L,x.q<=30000) (hqt:∀ x∈M,x.q<=30000)
  (O:HL->Nat->Int) (Ot:HL->Nat->Value) (hO:∀ x∈L,Limb.Own 160 w lo x.a x.n x.c (O x)) (hOt:∀ x∈M,J5 w lo x.a x.n x.c (Ot x)) (hN:∀ x∈L,x.n<=900000000) (hNt:∀ x∈M,x.n<=100000000)
  (hin:∀ x:HL,x∈L++M->∀ p:Addr,x.a=some p->lo<=p.block/\p.block<base) (hlo:lo<=base) (hD:ZP L) (hDt:ZP M) (hDD:∀ x∈L,∀ y∈M,∀ p q:Addr,x.a=some p->y.a=some q->p.block≠q.block) :
  Calls Tryz.prog 25 #[.pointer (some ⟨b,0,none⟩)] w fun e w'=>e=.returned (.bool true)/\Below lo w w':=by
 obtain⟨v,u,hB,-,-⟩:=h.ex;obtain⟨g,cap,rfl,hg,hA⟩:=arr_ofL hB.Uj h0;obtain⟨gt,ct,rfl,hgt,hT⟩:=jef hB.rowT h1;have hb:=h.hb;have hw:=h.hw
 have inL:∀ q,UA L.length (fun j=>(QS L j).a) q->lo<=q/\q<base:=by
  rintro q ⟨j,hj,p,hp,rfl⟩;exact hin _ (List.mem_append_left _ (QS.mem hj)) p hp
 have inM:∀ q,UA M.length (fun j=>(QS M j).a) q->lo<=q/\q<base:=by
  rintro q ⟨j,hj,p,hp,rfl⟩;exact hin _ (List.mem_append_right _ (QS.mem hj)) p hp
 refine(jcy b g L.length cap gt M.length ct _ _ _ (fun j=>O (QS L j)) _ _ _ _ (fun j=>Ot (QS M j)) _ (U1 q (.slice (some ⟨g,0,none⟩) L.length cap) (.slice (some ⟨gt,0,none⟩) M.length ct)) w
  { hk:=hk,hkt:=hkt,hν:=fun j hj=>hq _ (QS.mem hj),hμ:=fun j hj=>hqt _ (QS.mem hj),hB:=hB.box,f2:=rfl,f6:=rfl,hz:=fun i h1 h2 h3 h4=>?_,hA:=hA,hT:=hT,hO:=fun j hj=>(hO _ (QS.mem hj)).mono (Nat.zero_le _),hOt:=fun j hj=>(hOt _ (QS.mem hj)).mono (Nat.zero_le _),hN:=fun j hj=>hN _ (QS.mem hj),hNt:=fun j hj=>hNt _ (QS.mem hj),S:=⟨⟨fun h=>by have:=(inL _ h).2;omega,fun h=>by have:=(inL _ h).2;omega⟩,fun h=>by have:=(inL _ h).2;omega⟩,St:=⟨⟨fun h=>by have:=(inM _ h).2;omega,fun h=>by have:=(inM _ h).2;omega⟩,fun h=>by have:=(inM _ h).2;omega⟩,hD:=hD.part,hDt:=hDt.part,DD:=?_,ne:=⟨fun e=>hB.neL (by rw[e];rfl),fun e=>hB.neT (by rw[e];rfl),fun e=>hB.vu g rfl (by rw[e];rfl)⟩ }).mono ?_
 ·unfold U1;rw[if_neg (by omega),if_neg h3,if_neg h4]
 ·rintro g2 ⟨i,hi,p,hp,rfl⟩ ⟨j,hj,r,hr,e⟩;exact hDD _ (QS.mem hi) _ (QS.mem hj) p r hp hr e.symm
 ·rintro e w' ⟨rfl,hT2⟩;refine⟨rfl,hT2.jbq (by omega) fun k hk2 hu=>?_⟩
  rcases hu with (hu | rfl) | (hu | rfl)
  ·have:=(inL _ hu).1;omega
  ·omega
  ·have:=(inM _ hu).1;omega
  ·omega
open Go.Fresh
theorem jfv (b:Nat) (w:World) (h:w.cell? ⟨b,2,none⟩=some (.slice none 0 0)):Calls Tryz.prog 87 #[.pointer (some ⟨b,0,none⟩)] w fun e w'=>(∃ v,e=.returned v)/\w'=w:=by
 go_enter Tryz.func87,Tryz.ntmps87;go_wp2_with fail
 go_loopw [2] (fun i wr=>i=.int .i64 0/\wr=w) (fun _ _=>0)
 case atStart=>exact⟨rfl,rfl⟩
 case round =>
  obtain⟨rfl,rfl⟩:=hrel;go_wp2
  (try simp only[Exit.inBlock,Exit.then])
  refine bodyPost_end (results_none rfl _ _ _) rfl ?_;exact⟨⟨_,rfl⟩,rfl⟩
theorem jfw (b:Nat) (w:World) (h:w.cell? ⟨b,2,none⟩=some (.slice none 0 0)):Calls Tryz.prog 99 #[.pointer (some ⟨b,0,none⟩)] w fun e w'=>(∃ v,e=.returned v)/\w'=w:=by
 go_enter Tryz.func99,Tryz.ntmps99;go_wp2_with fail
 go_loopw [2] (fun i wr=>i=.int .i64 0/\wr=w) (fun _ _=>0)
 case atStart=>exact⟨rfl,rfl⟩
 case round =>
  obtain⟨rfl,rfl⟩:=hrel;go_wp2
  (try simp only[Exit.inBlock,Exit.then])
  refine bodyPost_end (results_none rfl _ _ _) rfl ?_;exact⟨⟨_,rfl⟩,rfl⟩
theorem jfx (b:Nat) (w:World) (h:w.cell? ⟨b,2,none⟩=some (.slice none 0 0)):Calls Tryz.prog 111 #[.pointer (some ⟨b,0,none⟩)] w fun e w'=>e=.returned (.bool true)/\w'=w:=by
 go_enter Tryz.func111,Tryz.ntmps111;go_wp2_with fail
 go_loopw [3] (fun i wr=>i=.int .i64 0/\wr=w) (fun _ _=>0)
 case atStart=>exact⟨rfl,rfl⟩
 case round =>
  obtain⟨rfl,rfl⟩:=hrel;go_wp2;go_ret;exact⟨rfl,rfl⟩
structure BkB0 (w:World) (b vt kt ct:Nat) (At:Nat->Option Addr) (Nt Ct:Nat->Nat) (Ot:Nat->Nat->Value) (μ:Nat->Nat) (f:Nat->Value):Prop where
 hkt:kt<=30000
 hμ:∀ j,j<kt->μ j<=30000
 hB:w.rowIs b 53 13 f
 f6:f 6=.slice (some ⟨vt,0,none⟩) kt ct
 hz:∀ i,0<i->i<13->i≠6->f i=.slice none 0 0
 hT:ZL μ w vt kt At Nt Ct (fun _=>.slice none 0 0)
 hOt:∀ j,j<kt->J5 w 0 (At j) (Nt j) (Ct j) (Ot j)
 hNt:∀ j,j<kt->Nt j<=100000000
 St:¬UA kt At b/\¬UA kt At vt
 hDt:Part kt At
 ne:b≠vt
theorem jc7 (b vt kt ct:Nat) (At:Nat->Option Addr) (Nt Ct:Nat->Nat) (Ot:Nat->Nat->Value) (μ:Nat->Nat) (f:Nat->Value) (w:World) (h:BkB0 w b vt kt ct At Nt Ct Ot μ f) :
  Calls Tryz.prog 25 #[.pointer (some ⟨b,0,none⟩)] w fun e w'=>e=.returned (.bool true)/\Touch (fun g=>UA kt At g\/g=vt) w w':=by
 have HH:=qh h;have HZ:=qh h.hz;have H0:=qh h.hB;have HPT:=qh (show ∀ g,UA kt At g->g<w.heap.size from fun g ⟨j,hj,p,hp,e⟩=>by rw[<- e];exact((h.hOt j hj).blk hp).2.2);have HVT:=qh (show vt<w.heap.size from h.hT.lt);clear h;have N0:=qh (fun i (h1:0<i) (h2:i<13) (h4:i≠6)=>(show w.cell? ⟨b,i,none⟩=some (.slice none 0 0) by rw[H0.o.cell h2,HZ.o i h1 h2 h4]));have FT:=qh (V6 b vt kt ct At Nt Ct Ot f μ w HH.o.hkt HH.o.hμ H0.o HH.o.f6 HH.o.hT HH.o.hOt HH.o.hNt HH.o.St HH.o.hDt);go_enter Tryz.func25,Tryz.ntmps25;go_wp2_with fail
 refine(ja7 b w (N0.o 1 (by omega) (by omega) (by omega))).mono ?_;rintro e x ⟨⟨v,rfl⟩,hx⟩;obtain rfl:=hx.symm;go_wp2_with fail
 refine(jfv b w (N0.o 2 (by omega) (by omega) (by omega))).mono ?_;rintro e x ⟨⟨v,rfl⟩,hx⟩;obtain rfl:=hx.symm;go_wp2_with fail
 refine(jba b w (N0.o 3 (by omega) (by omega) (by omega))).mono ?_;rintro e x ⟨⟨v,rfl⟩,hx⟩;obtain rfl:=hx.symm;go_wp2_with fail
 refine(VD b w (N0.o 4 (by omega) (by omega) (by omega))).mono ?_;rintro e x ⟨⟨v,rfl⟩,hx⟩;obtain rfl:=hx.symm;go_wp2_with fail
 refine(jdx b w (N0.o 5 (by omega) (by omega) (by omega))).mono ?_;rintro e x ⟨⟨v,rfl⟩,hx⟩;obtain rfl:=hx.symm;go_wp2_with fail
 refine FT.o.mono ?_;rintro e w2 ⟨⟨v,rfl⟩,hT,hO2⟩;have T2:=qh (hT.mono fun g hg=>(Or.inl hg:UA kt At g\/g=vt));have HOT2:=qh hO2;have H2:=qh (H0.o.of_block (hT.block _ H0.o.lt HH.o.St.1));have HT2:=qh (HH.o.hT.keep (hT.block _ HVT.o HH.o.St.2));clear hT hO2 N0 FT;have N2:=qh (fun i (h1:0<i) (h2:i<13) (h4:i≠6)=>(show w2.cell? ⟨b,i,none⟩=some (.slice none 0 0) by rw[H2.o.cell h2,HZ.o i h1 h2 h4]));have GT:=qh (V9 b vt kt ct At Nt Ct f μ w2 HH.o.hkt HH.o.hμ H2.o HH.o.f6 HT2.o HOT2.o HH.o.hNt HH.o.St HH.o.hDt HH.o.ne);go_wp2_with fail
 refine(YJ b w2 (N2.o 7 (by omega) (by omega) (by omega))).mono ?_;rintro e x ⟨⟨v,rfl⟩,hx⟩;obtain rfl:=hx.symm;go_wp2_with fail
 refine(jbd b w2 (N2.o 8 (by omega) (by omega) (by omega))).mono ?_;rintro e x ⟨⟨v,rfl⟩,hx⟩;obtain rfl:=hx.symm;go_wp2_with fail
 refine(jbg b w2 (N2.o 9 (by omega) (by omega) (by omega))).mono ?_;rintro e x ⟨⟨v,rfl⟩,hx⟩;obtain rfl:=hx.symm;go_wp2_with fail
 refine(VG b w2 (N2.o 10 (by omega) (by omega) (by omega))).mono ?_;rintro e x ⟨⟨v,rfl⟩,hx⟩;obtain rfl:=hx.symm;go_wp2_with fail
 refine(VJ b w2 (N2.o 11 (by omega) (by omega) (by omega))).mono ?_;rintro e x ⟨⟨v,rfl⟩,hx⟩;obtain rfl:=hx.symm;go_wp2_with fail
 refine(VM b w2 (N2.o 12 (by omega) (by omega) (by omega))).mono ?_;rintro e x ⟨⟨v,rfl⟩,hx⟩;obtain rfl:=hx.symm;go_wp2_with fail
 refine(ja8 b w2 (N2.o 1 (by omega) (by omega) (by omega))).mono ?_;rintro e x ⟨⟨v,rfl⟩,hx⟩;obtain rfl:=hx.symm;go_wp2_with fail
 refine(jfw b w2 (N2.o 2 (by omega) (by omega) (by omega))).mono ?_;rintro e x ⟨⟨v,rfl⟩,hx⟩;obtain rfl:=hx.symm;go_wp2_with fail
 refine(jbb b w2 (N2.o 3 (by omega) (by omega) (by omega))).mono ?_;rintro e x ⟨⟨v,rfl⟩,hx⟩;obtain rfl:=hx.symm;go_wp2_with fail
 refine(VE b w2 (N2.o 4 (by omega) (by omega) (by omega))).mono ?_;rintro e x ⟨⟨v,rfl⟩,hx⟩;obtain rfl:=hx.symm;go_wp2_with fail
 refine(jdy b w2 (N2.o 5 (by omega) (by omega) (by omega))).mono ?_;rintro e x ⟨⟨v,rfl⟩,hx⟩;obtain rfl:=hx.symm;go_wp2_with fail
 refine GT.o.mono ?_;rintro e w4 ⟨⟨v,rfl⟩,LAt,LCt,hG⟩;have HGT:=qh hG;have T4:=qh (T2.o.trans hG.tch);have H4:=qh (H2.o.of_block (hG.tch.block _ H2.o.lt (fun h=>h.elim HH.o.St.1 (fun h=>HH.o.ne h))));clear hG N2 GT;have N4:=qh (fun i (h1:0<i) (h2:i<13) (h4:i≠6)=>(show w4.cell? ⟨b,i,none⟩=some (.slice none 0 0) by rw[H4.o.cell h2,HZ.o i h1 h2 h4]));have LT:=qh (Ub b vt kt ct At LAt Nt Ct LCt f μ w4 HH.o.hkt HH.o.hμ H4.o HH.o.f6 (HGT.o.arr.congr fun j hj=>by rw[if_pos hj]) HGT.o.own (fun j hj=>(HGT.o.lng j hj).1) HH.o.hNt);go_wp2_with fail
 refine(YK b w4 (N4.o 7 (by omega) (by omega) (by omega))).mono ?_;rintro e x ⟨⟨v,rfl⟩,hx⟩;obtain rfl:=hx.symm;go_wp2_with fail
 refine(jbe b w4 (N4.o 8 (by omega) (by omega) (by omega))).mono ?_;rintro e x ⟨⟨v,rfl⟩,hx⟩;obtain rfl:=hx.symm;go_wp2_with fail
 refine(jbh b w4 (N4.o 9 (by omega) (by omega) (by omega))).mono ?_;rintro e x ⟨⟨v,rfl⟩,hx⟩;obtain rfl:=hx.symm;go_wp2_with fail
 refine(VH b w4 (N4.o 10 (by omega) (by omega) (by omega))).mono ?_;rintro e x ⟨⟨v,rfl⟩,hx⟩;obtain rfl:=hx.symm;go_wp2_with fail
 refine(VK b w4 (N4.o 11 (by omega) (by omega) (by omega))).mono ?_;rintro e x ⟨⟨v,rfl⟩,hx⟩;obtain rfl:=hx.symm;go_wp2_with fail
 refine(VN b w4 (N4.o 12 (by omega) (by omega) (by omega))).mono ?_;rintro e x ⟨⟨v,rfl⟩,hx⟩;obtain rfl:=hx.symm;go_wp2_with fail
 refine(ja9 b w4 (N4.o 1 (by omega) (by omega) (by omega))).mono ?_;rintro e x ⟨rfl,hx⟩;obtain rfl:=hx.symm;go_wp2_with fail
 refine(jfx b w4 (N4.o 2 (by omega) (by omega) (by omega))).mono ?_;rintro e x ⟨rfl,hx⟩;obtain rfl:=hx.symm;go_wp2_with fail
 refine(jbc b w4 (N4.o 3 (by omega) (by omega) (by omega))).mono ?_;rintro e x ⟨rfl,hx⟩;obtain rfl:=hx.symm;go_wp2_with fail
 refine(VF b w4 (N4.o 4 (by omega) (by omega) (by omega))).mono ?_;rintro e x ⟨rfl,hx⟩;obtain rfl:=hx.symm;go_wp2_with fail
 refine(jdz b w4 (N4.o 5 (by omega) (by omega) (by omega))).mono ?_;rintro e x ⟨rfl,hx⟩;obtain rfl:=hx.symm;go_wp2_with fail
 refine LT.o.mono ?_;rintro e w6 ⟨rfl,hb⟩;have T6:=qh (T4.o.trans (Touch.of_below hb));have H6:=qh (H4.o.of_block (hb.block _ H4.o.lt));clear hb N4 LT;have N6:=qh (fun i (h1:0<i) (h2:i<13) (h4:i≠6)=>(show w6.cell? ⟨b,i,none⟩=some (.slice none 0 0) by rw[H6.o.cell h2,HZ.o i h1 h2 h4]));go_wp2_with fail
 refine(YL b w6 (N6.o 7 (by omega) (by omega) (by omega))).mono ?_;rintro e x ⟨rfl,hx⟩;obtain rfl:=hx.symm;go_wp2_with fail
 refine(jbf b w6 (N6.o 8 (by omega) (by omega) (by omega))).mono ?_;rintro e x ⟨rfl,hx⟩;obtain rfl:=hx.symm;go_wp2_with fail
 refine(jbi b w6 (N6.o 9 (by omega) (by omega) (by omega))).mono ?_;rintro e x ⟨rfl,hx⟩;obtain rfl:=hx.symm;go_wp2_with fail
 refine(VI b w6 (N6.o 10 (by omega) (by omega) (by omega))).mono ?_;rintro e x ⟨rfl,hx⟩;obtain rfl:=hx.symm;go_wp2_with fail
 refine(VL b w6 (N6.o 11 (by omega) (by omega) (by omega))).mono ?_;rintro e x ⟨rfl,hx⟩;obtain rfl:=hx.symm;go_wp2_with fail
 refine(VO b w6 (N6.o 12 (by omega) (by omega) (by omega))).mono ?_;rintro e x ⟨rfl,hx⟩;obtain rfl:=hx.symm;go_wp2_with fail
 go_ret;exact⟨rfl,T6.o⟩
theorem BkS.apart0 {w:World} {b base q lo:Nat} {M:List HL} (h:BkS w b base q [] M) (h1:0<M.length) (hkt:M.length<=30000) (hqt:∀ x∈M,x.q<=30000)
  (Ot:HL->Nat->Value) (hOt:∀ x∈M,J5 w lo x.a x.n x.c (Ot x)) (hNt:∀ x∈M,x.n<=100000000)
  (hin:∀ x:HL,x∈M->∀ p:Addr,x.a=some p->lo<=p.block/\p.block<base) (hlo:lo<=base) (hDt:ZP M) :
  Calls Tryz.prog 25 #[.pointer (some ⟨b,0,none⟩)] w fun e w'=>e=.returned (.bool true)/\Below lo w w':=by
 obtain⟨v,u,hB,e1,-⟩:=h.ex;obtain⟨gt,ct,rfl,hgt,hT⟩:=jef hB.rowT h1;have hv:v=.slice none 0 0:=e1 rfl;have hb:=h.hb;have hw:=h.hw
 have inM:∀ q,UA M.length (fun j=>(QS M j).a) q->lo<=q/\q<base:=by
  rintro q ⟨j,hj,p,hp,rfl⟩;exact hin _ (QS.mem hj) p hp
 refine(jc7 b gt M.length ct _ _ _ (fun j=>Ot (QS M j)) _ (U1 q v (.slice (some ⟨gt,0,none⟩) M.length ct)) w
  { hkt:=hkt,hμ:=fun j hj=>hqt _ (QS.mem hj),hB:=hB.box,f6:=rfl,hz:=fun i h1 h2 h4=>?_,hT:=hT,hOt:=fun j hj=>(hOt _ (QS.mem hj)).mono (Nat.zero_le _),hNt:=fun j hj=>hNt _ (QS.mem hj),St:=⟨fun h=>by have:=(inM _ h).2;omega,fun h=>by have:=(inM _ h).2;omega⟩,hDt:=hDt.part,ne:=fun e=>hB.neT (by rw[e];rfl) }).mono ?_
 ·unfold U1;rw[if_neg (by omega),if_neg h4];split
  ·exact hv
  ·rfl
 ·rintro e w' ⟨rfl,hT2⟩;refine⟨rfl,hT2.jbq (by omega) fun k hk2 hu=>?_⟩
  rcases hu with hu | rfl
  ·have:=(inM _ hu).1;omega
  ·omega
end Book
namespace Limb
open Go.RowKit Go.Sort Go.Fresh
theorem one_iff (s:Bool) (n:Nat) (o:Nat->Int) (h:okN s n o) (h0:∀ i,i<n->0<=o i/\o i<=4294967295):Jq s n o=1↔s=false/\n=1/\o 0=1:=by
 obtain⟨f1,f2,f3⟩:=Qy s n o h h0;constructor
 ·intro e;rw[e] at f1 f2 f3
  have hl:Ja (Int.natAbs 1)=1:=by rw[show Int.natAbs 1=1 from rfl,Xr (by decide),show 1/1000000000=0 from rfl,JD]
  have hn:n=1:=by omega
  subst hn;refine⟨by rw[<- f1];rfl,rfl,?_⟩;rw[f3 0 (by omega)];show((dg 1 0:Nat):Int)=1;rw[ZF];rfl
 ·rintro⟨rfl,rfl,e⟩;unfold Jq;rw[if_pos h,if_neg (by simp)];show(0:Int)+o 0*((pw 0:Nat):Int)=1;rw[e,Qb];rfl
def Kk (w:World) (p q:Int) (e:Ending) (w':World):Prop :=
 ∃ a1 c1 a2 c2,e=.returned (Qg (decide (p<0)) a1 (Ja p.natAbs) c1 (decide (q<0)) a2 (Ja q.natAbs) c2)/\Own 160 w' w.heap.size a1 (Ja p.natAbs) c1 (dgi p.natAbs) /\
  Own 160 w' w.heap.size a2 (Ja q.natAbs) c2 (dgi q.natAbs)/\Below w.heap.size w w'
open Classical in
theorem XZ (s1:Bool) (a1:Option Addr) (n1 c1:Nat) (o1:Nat->Int) (w:World) (h1:Rd w a1 n1 o1) (hn1:n1<=100000000) (hc1:n1<=c1) (hk:okN s1 n1 o1) :
  Calls Tryz.prog 210 #[Jy s1 a1 n1 c1] w fun e w'=>e=.returned (.bool (decide (Jq s1 n1 o1=1)))/\Below w.heap.size w w':=by
 have RES:=qh (one_iff s1 n1 o1 hk h1.rng);have HB1:=qh (Bxs.new (w) 26 [.bool s1,.slice a1 n1 c1]);obtain⟨W,hW⟩:∃ W,W=w.alloc (.cells #[.bool s1,.slice a1 n1 c1] 26):=⟨_,rfl⟩;have KG:=qh (show Below w.heap.size w W by rw[hW];exact zk.alloc zj _);have HWS:=qh (show w.heap.size+1<=W.heap.size by rw[hW];simp only[World.size_alloc];omega);have HB1:=qh (show Bxs W (w.heap.size) 26 [.bool s1,.slice a1 n1 c1] by have h:=HB1.o;rw[hW];exact h);have HW:=qh hW;clear hW;have HR:=qh (h1.below KG.o);clear h1 hk
 cases s1 with
 | true =>
  rw[zo (fun h=>by cases (RES.o.1 h).1)];clear RES;go_enter Tryz.func210,Tryz.ntmps210
  go_upto_region 1 with (fail)
  rw[show w.alloc (.cells #[.bool true,.slice a1 n1 c1] 26)=W from HW.o.symm];clear HW;have b1c0:=HB1.o.ce 0;have b1c1:=HB1.o.ce 1;have b1f:=HB1.o.fz;have b1l:=HB1.o.lt;go_wp2_with fail
  clear b1c0 b1c1 b1f b1l;go_ret
  exact⟨rfl,KG.o⟩
 | false =>
  by_cases hn:n1=1
  ·subst hn;obtain⟨b,off,rfl,hc⟩:=HR.o.cells (by omega);have hc:=hc 0 (by omega);rw[show decide (Jq false 1 o1=1)=decide (o1 0=1) from decide_eq_decide.2 ⟨fun h=>(RES.o.1 h).2.2,fun h=>RES.o.2 ⟨rfl,rfl,h⟩⟩];clear RES;change _=some (Value.int .u32 (o1 0)) at hc;obtain⟨t,ht⟩:∃ t,t=o1 0:=⟨_,rfl⟩;rw[<- ht] at hc ⊢;clear ht;simp only[Nat.add_zero] at hc;go_enter Tryz.func210,Tryz.ntmps210
   go_upto_region 1 with (fail)
   rw[show w.alloc (.cells #[.bool false,.slice (some ⟨b,off,none⟩) 1 c1] 26)=W from HW.o.symm];clear HW;have b1c0:=HB1.o.ce 0;have b1c1:=HB1.o.ce 1;have b1f:=HB1.o.fz;have b1l:=HB1.o.lt;go_wp2_with fail
   clear b1c0 b1c1 b1f b1l;go_ret;exact⟨by first | rfl | (congr 1;simp),KG.o⟩
  ·rw[zo (fun h=>hn (RES.o.1 h).2.1)];clear RES
   have hn':¬(n1:Int)=1:=by omega
   clear hn;go_enter Tryz.func210,Tryz.ntmps210
   go_upto_region 1 with (fail)
   rw[show w.alloc (.cells #[.bool false,.slice a1 n1 c1] 26)=W from HW.o.symm];clear HW;have b1c0:=HB1.o.ce 0;have b1c1:=HB1.o.ce 1;have b1f:=HB1.o.fz;have b1l:=HB1.o.lt;go_wp2_with fail
   clear b1c0 b1c1 b1f b1l;go_ret;exact⟨rfl,KG.o⟩
open Classical in
theorem XA (s1:Bool) (a1:Option Addr) (n1 c1:Nat) (o1:Nat->Int) (s2:Bool) (a2:Option Addr) (n2 c2:Nat) (o2:Nat->Int) (w:World)
  (h1:Rd w a1 n1 o1) (hn1:n1<=5000000) (hc1:n1<=c1) (h2:Rd w a2 n2 o2) (hn2:n2<=5000000) (hc2:n2<=c2) :
  Calls Tryz.prog 128 #[Qg s1 a1 n1 c1 s2 a2 n2 c2] w fun e w'=>e=.returned (.bool (decide (okF s1 n1 o1 s2 n2 o2)))/\Below w.heap.size w w':=by
 have HB:=qh (Bxs.new w 28 [.bool s1,.slice a1 n1 c1,.bool s2,.slice a2 n2 c2]);obtain⟨W,hW⟩:∃ W,W=w.alloc (.cells #[.bool s1,.slice a1 n1 c1,.bool s2,.slice a2 n2 c2] 28):=⟨_,rfl⟩;have HBW:=qh (show Below w.heap.size w W by rw[hW];exact zk.alloc zj _);rw[show w.alloc (.cells (List.toArray [.bool s1,.slice a1 n1 c1,.bool s2,.slice a2 n2 c2]) 28)=W from hW.symm] at HB;have HW:=qh hW;have GB:=qh (Below.refl W.heap.size W);have CK1:=qh (fun (w':World) (hb:Below W.heap.size W w')=>Q7 s1 a1 n1 c1 o1 w' (h1.below (HBW.o.trans (hb.mono HBW.o.size))) (by omega));have CK2:=qh (fun (w':World) (hb:Below W.heap.size W w')=>Q7 s2 a2 n2 c2 o2 w' (h2.below (HBW.o.trans (hb.mono HBW.o.size))) (by omega));have SG:=qh (fun (w':World) (hb:Below W.heap.size W w')=>K6 s2 a2 n2 c2 o2 w' (h2.below (HBW.o.trans (hb.mono HBW.o.size))) (by omega) hc2);have GC:=qh (fun (w':World) (hb:Below W.heap.size W w')=>Vo s1 a1 n1 c1 o1 s2 a2 n2 c2 o2 w' (h1.below (HBW.o.trans (hb.mono HBW.o.size))) (by omega) hc1 (h2.below (HBW.o.trans (hb.mono HBW.o.size))) (by omega) hc2)
 have HGL:=qh (show Ja (Int.gcd (Jq s1 n1 o1) (Jq s2 n2 o2))<=10000000 from by
  obtain⟨_,_,_,l1,_⟩:=Q5 s1 a1 n1 c1 o1 w h1 (by omega) hc1;obtain⟨_,_,_,l2,_⟩:=Q5 s2 a2 n2 c2 o2 w h2 (by omega) hc2;have:=Kz (Jq s1 n1 o1) (Jq s2 n2 o2)
  omega)
 have HRD:=qh (fun (w':World) (hb:Below W.heap.size W w')=>h2.below (HBW.o.trans (hb.mono HBW.o.size)));clear h1 h2 hW;by_cases k1:okN s1 n1 o1
 ·rw[decide_eq_true k1] at CK1;by_cases k2:okN s2 n2 o2
  ·rw[decide_eq_true k2] at CK2;obtain⟨cs,hcs⟩:∃ cs,cs=JB (Jq s2 n2 o2) 0:=⟨_,rfl⟩;rw[<- hcs] at SG;by_cases k3:0<Jq s2 n2 o2
   ·have hc3:decide (0<cs)=true:=by rw[hcs,JR k3];rfl
    obtain⟨G,hG⟩:∃ G:Int,G=((Int.gcd (Jq s1 n1 o1) (Jq s2 n2 o2):Nat):Int):=⟨_,rfl⟩;rw[<- hG] at GC;have HGN:=qh (show Ja G.natAbs<=10000000 by rw[hG,Int.natAbs_natCast];exact HGL.o);have RES:=qh (jed s1 n1 o1 s2 n2 o2 k1 k2 k3);rw[<- hG] at RES;have RO:=qh (fun (w':World) (hb:Below W.heap.size W w')=>XZ s2 a2 n2 c2 o2 w' (HRD.o w' hb) (by omega) hc2 k2)
    have HD:=qh (show(decide (Jq s2 n2 o2=1)=true/\decide (okF s1 n1 o1 s2 n2 o2)=true)\/decide (Jq s2 n2 o2=1)=false by
     by_cases h1:Jq s2 n2 o2=1
     ·exact Or.inl ⟨decide_eq_true h1,by rw[RES.o,hG,h1];exact decide_eq_true (by rw[Int.gcd_one_right];rfl)⟩
     ·exact Or.inr (zo h1))
    obtain⟨dv,hdv⟩:∃ dv,dv=decide (Jq s2 n2 o2=1):=⟨_,rfl⟩;rw[<- hdv] at RO HD;clear hdv hG hcs k1 k2 k3 HRD;go_enter Tryz.func128,Tryz.ntmps128
    go_upto_region 1 with (fail)
    rw[show w.alloc (.cells #[.bool s1,.slice a1 n1 c1,.bool s2,.slice a2 n2 c2] 28)=W from HW.o.symm];obtain⟨x0,x1,x2,x3,x4,x5⟩:=Ji HB.o;go_wp2_with fail
    refine(CK1.o _ GB.o).mono ?_;rintro e w' ⟨rfl,hb⟩;have GB:=qk GB hb;clear hb x0 x1 x2 x3 x4 x5;obtain⟨x0,x1,x2,x3,x4,x5⟩:=Ji (HB.o.below GB.o HB.o.lt);obtain⟨w1,rfl⟩:∃ w1,w1=w':=⟨_,rfl⟩;go_wp2_with fail
    refine(CK2.o _ GB.o).mono ?_;rintro e w' ⟨rfl,hb⟩;have GB:=qk GB hb;clear hb x0 x1 x2 x3 x4 x5;obtain⟨x0,x1,x2,x3,x4,x5⟩:=Ji (HB.o.below GB.o HB.o.lt);obtain⟨w1,rfl⟩:∃ w1,w1=w':=⟨_,rfl⟩;go_wp2_with fail
    refine(SG.o _ GB.o).mono ?_;rintro e w' ⟨rfl,hb⟩;have GB:=qk GB hb;clear hb x0 x1 x2 x3 x4 x5;obtain⟨x0,x1,x2,x3,x4,x5⟩:=Ji (HB.o.below GB.o HB.o.lt);obtain⟨w1,rfl⟩:∃ w1,w1=w':=⟨_,rfl⟩;go_wp2_with fail
    refine(RO.o _ GB.o).mono ?_;rintro e w' ⟨rfl,hb⟩;have GB:=qk GB hb;clear hb RO x0 x1 x2 x3 x4 x5
    rcases HD.o with ⟨h1,hr⟩ | h1
    ·subst h1;have RES:=qh hr;clear hr HD;go_wp2_with fail
     go_ret;exact⟨by rw[RES.o];rfl,HBW.o.trans (GB.o.mono HBW.o.size)⟩
    ·subst h1;clear HD;obtain⟨x0,x1,x2,x3,x4,x5⟩:=Ji (HB.o.below GB.o HB.o.lt);go_wp2_with fail
     refine(GC.o _ GB.o).mono ?_;rintro e w2 ⟨x,xc,rfl,ho,hb⟩;have UN:=qh (XZ (decide (G<0)) x (Ja G.natAbs) xc (dgi G.natAbs) w2 ho.rd (by have:=HGN.o;omega) ho.le (J9 G));rw[Jj] at UN;have GB:=qk GB hb;clear hb ho x0 x1 x2 x3 x4 x5;go_wp2_with fail
     refine UN.o.mono ?_;rintro e w3 ⟨rfl,hb⟩;have GB:=qk GB hb;clear hb UN;go_wp2_with fail
     go_ret;exact⟨by rw[RES.o];first | rfl | (congr 1;simp),HBW.o.trans (GB.o.mono HBW.o.size)⟩
   ·have hc3:decide (0<cs)=false:=by
     rw[hcs];refine zo ?_
     rcases Int.lt_trichotomy (Jq s2 n2 o2) 0 with h | h | h
     ·rw[JO h];omega
     ·rw[J4 h];omega
     ·exact absurd h k3
    have RES:=qh (show decide (okF s1 n1 o1 s2 n2 o2)=false from zo fun h=>k3 h.2.2.1);clear hcs k1 k2 k3;go_enter Tryz.func128,Tryz.ntmps128
    go_upto_region 1 with (fail)
    rw[show w.alloc (.cells #[.bool s1,.slice a1 n1 c1,.bool s2,.slice a2 n2 c2] 28)=W from HW.o.symm];obtain⟨x0,x1,x2,x3,x4,x5⟩:=Ji HB.o;go_wp2_with fail
    refine(CK1.o _ GB.o).mono ?_;rintro e w' ⟨rfl,hb⟩;have GB:=qk GB hb;clear hb x0 x1 x2 x3 x4 x5;obtain⟨x0,x1,x2,x3,x4,x5⟩:=Ji (HB.o.below GB.o HB.o.lt);obtain⟨w1,rfl⟩:∃ w1,w1=w':=⟨_,rfl⟩;go_wp2_with fail
    refine(CK2.o _ GB.o).mono ?_;rintro e w' ⟨rfl,hb⟩;have GB:=qk GB hb;clear hb x0 x1 x2 x3 x4 x5;obtain⟨x0,x1,x2,x3,x4,x5⟩:=Ji (HB.o.below GB.o HB.o.lt);obtain⟨w1,rfl⟩:∃ w1,w1=w':=⟨_,rfl⟩;go_wp2_with fail
    refine(SG.o _ GB.o).mono ?_;rintro e w' ⟨rfl,hb⟩;have GB:=qk GB hb;clear hb x0 x1 x2 x3 x4 x5;obtain⟨x0,x1,x2,x3,x4,x5⟩:=Ji (HB.o.below GB.o HB.o.lt);obtain⟨w1,rfl⟩:∃ w1,w1=w':=⟨_,rfl⟩;go_wp2_with fail
    go_ret;exact⟨by rw[RES.o];rfl,HBW.o.trans (GB.o.mono HBW.o.size)⟩
  ·rw[zo k2] at CK2;have RES:=qh (show decide (okF s1 n1 o1 s2 n2 o2)=false from zo fun h=>k2 h.2.1);clear k1 k2;go_enter Tryz.func128,Tryz.ntmps128
   go_upto_region 1 with (fail)
   rw[show w.alloc (.cells #[.bool s1,.slice a1 n1 c1,.bool s2,.slice a2 n2 c2] 28)=W from HW.o.symm];obtain⟨x0,x1,x2,x3,x4,x5⟩:=Ji HB.o;go_wp2_with fail
   refine(CK1.o _ GB.o).mono ?_;rintro e w' ⟨rfl,hb⟩;have GB:=qk GB hb;clear hb x0 x1 x2 x3 x4 x5;obtain⟨x0,x1,x2,x3,x4,x5⟩:=Ji (HB.o.below GB.o HB.o.lt);obtain⟨w1,rfl⟩:∃ w1,w1=w':=⟨_,rfl⟩;go_wp2_with fail
   refine(CK2.o _ GB.o).mono ?_;rintro e w' ⟨rfl,hb⟩;have GB:=qk GB hb;clear hb x0 x1 x2 x3 x4 x5;obtain⟨x0,x1,x2,x3,x4,x5⟩:=Ji (HB.o.below GB.o HB.o.lt);obtain⟨w1,rfl⟩:∃ w1,w1=w':=⟨_,rfl⟩;go_wp2_with fail
   go_ret;exact⟨by rw[RES.o];rfl,HBW.o.trans (GB.o.mono HBW.o.size)⟩
 ·rw[zo k1] at CK1;have RES:=qh (show decide (okF s1 n1 o1 s2 n2 o2)=false from zo fun h=>k1 h.1);clear k1;go_enter Tryz.func128,Tryz.ntmps128
  go_upto_region 1 with (fail)
  rw[show w.alloc (.cells #[.bool s1,.slice a1 n1 c1,.bool s2,.slice a2 n2 c2] 28)=W from HW.o.symm];obtain⟨x0,x1,x2,x3,x4,x5⟩:=Ji HB.o;go_wp2_with fail
  refine(CK1.o _ GB.o).mono ?_;rintro e w' ⟨rfl,hb⟩;have GB:=qk GB hb;clear hb x0 x1 x2 x3 x4 x5;obtain⟨x0,x1,x2,x3,x4,x5⟩:=Ji (HB.o.below GB.o HB.o.lt);obtain⟨w1,rfl⟩:∃ w1,w1=w':=⟨_,rfl⟩;go_wp2_with fail
  go_ret;exact⟨by rw[RES.o];rfl,HBW.o.trans (GB.o.mono HBW.o.size)⟩
open Classical in
theorem jbx (n:Int) (w:World) (h1:-9223372036854775808<=n) (h2:n<=9223372036854775807) :
  Calls Tryz.prog 76 #[.int .i64 n] w (Kk w n 1):=by
 obtain⟨one,hone⟩:∃ one:Int,one=1:=⟨_,rfl⟩;have OF1:=qh (fun (w':World)=>K7 n w' h1 h2);have OF2:=qh (show ∀ w',Calls Tryz.prog 141 #[.int .i64 1] w' (Yl w' one) from fun w'=>by rw[hone];exact K7 1 w' (by omega) (by omega));rw[<- hone];have HB:=qh (Bxs.new w 28 [.bool false,.slice none 0 0,.bool false,.slice none 0 0]);have HBW:=qh (show Below w.heap.size w (w.alloc (.cells #[.bool false,.slice none 0 0,.bool false,.slice none 0 0] 28)) from zk.alloc zj _);obtain⟨W,hW⟩:∃ W,W=w.alloc (.cells #[.bool false,.slice none 0 0,.bool false,.slice none 0 0] 28):=⟨_,rfl⟩;rw[show w.alloc (.cells (List.toArray [.bool false,.slice none 0 0,.bool false,.slice none 0 0]) 28)=W from hW.symm] at HB;rw[<- hW] at HBW;have HW:=qh hW;clear h1 h2 hone hW;go_enter Tryz.func76,Tryz.ntmps76
 go_upto_region 1 with (fail)
 rw[show w.alloc (.cells #[.bool false,.slice none 0 0,.bool false,.slice none 0 0] 28)=W from HW.o.symm];go_wp2_with fail
 refine(OF1.o _).mono ?_;rintro e w1 ⟨a1,d1,rfl,ho1,hb1⟩;have HO1:=qh ho1;have GB:=qh hb1;clear ho1 hb1;go_wp2_with fail
 refine(OF2.o _).mono ?_;rintro e w2 ⟨a2,d2,rfl,ho2,hb2⟩;have HO1:=qh (HO1.o.below hb2);have HO2:=qh (ho2.mono GB.o.size);have GB:=qk GB hb2;have HB2:=qh (HB.o.below GB.o HB.o.lt);clear ho2 hb2;obtain⟨x0,x1,x2,x3,x4,x5⟩:=Ji HB2.o;go_wp2_with fail
 have hlt:=HB.o.lt;have hG:=HBW.o.trans (GB.o.mono HBW.o.size);refine bodyPost_ret (Je rfl _ _ _ _ _ _ _ rfl ((((HB2.o.put 0 _).put 1 _).put 2 _).put 3 _) Tryz.underlying28 rfl (by kernel_rfl)) rfl ⟨a1,d1,a2,d2,rfl,?_,?_,?_⟩
 ·exact((((HO1.o.oz).oz).oz).oz).mono (by omega)
 ·exact((((HO2.o.oz).oz).oz).oz).mono (by omega)
 ·exact(((hG.sc).sc).sc).sc
open Classical in
theorem rfit_ok (s1:Bool) (a1:Option Addr) (n1 c1:Nat) (o1:Nat->Int) (s2:Bool) (a2:Option Addr) (n2 c2:Nat) (o2:Nat->Int) (w:World) (B0:Nat) (hB0:B0<=w.heap.size)
  (h1:Rd w a1 n1 o1) (hn1:n1<=5000000) (hc1:n1<=c1) (f1:0<n1->∀ p,a1=some p->p.block<B0) (h2:Rd w a2 n2 o2) (hn2:n2<=5000000) (hc2:n2<=c2) (f2:0<n2->∀ p,a2=some p->p.block<B0) (hk:okF s1 n1 o1 s2 n2 o2) :
  Calls Tryz.prog 80 #[Qg s1 a1 n1 c1 s2 a2 n2 c2] w (VA w B0 (Jq s1 n1 o1) (Jq s2 n2 o2)):=by
 have CK:=qh (fun (w':World) (hb:Below w.heap.size w w')=>XA s1 a1 n1 c1 o1 s2 a2 n2 c2 o2 w' (h1.below hb) hn1 hc1 (h2.below hb) hn2 hc2);rw[decide_eq_true hk] at CK;obtain⟨t1,t2,t3⟩:=Qy s1 n1 o1 hk.1 h1.rng;obtain⟨u1,u2,u3⟩:=Qy s2 n2 o2 hk.2.1 h2.rng
 generalize Jq s1 n1 o1=z1 at t1 t2 t3 ⊢
 generalize Jq s2 n2 o2=z2 at u1 u2 u3 ⊢
 have HR:=qh (And.intro (And.intro h1 f1) (And.intro h2 f2));have HT:=qh (And.intro (And.intro t1 (And.intro t2 t3)) (And.intro u1 (And.intro u2 u3)));clear hk h1 h2 f1 f2 t1 t2 t3 u1 u2 u3;have HB:=qh ((Bxs.new w 28 [.bool s1,.slice a1 n1 c1,.bool s2,.slice a2 n2 c2]).alloc (.cells #[.bool false,.slice none 0 0,.bool false,.slice none 0 0] 28));have HBR:=qh (Bxs.new (w.alloc (.cells #[.bool s1,.slice a1 n1 c1,.bool s2,.slice a2 n2 c2] 28)) 28 [.bool false,.slice none 0 0,.bool false,.slice none 0 0]);obtain⟨W,hW⟩:∃ W,W=(w.alloc (.cells #[.bool s1,.slice a1 n1 c1,.bool s2,.slice a2 n2 c2] 28)).alloc (.cells #[.bool false,.slice none 0 0,.bool false,.slice none 0 0] 28):=⟨_,rfl⟩;have HBW:=qh (show Below w.heap.size w W by rw[hW];exact(zk.alloc zj _).alloc (by simp) _);rw[show(w.alloc (.cells (List.toArray [.bool s1,.slice a1 n1 c1,.bool s2,.slice a2 n2 c2]) 28)).alloc (.cells #[.bool false,.slice none 0 0,.bool false,.slice none 0 0] 28)=W from hW.symm] at HB;rw[show(w.alloc (.cells #[.bool s1,.slice a1 n1 c1,.bool s2,.slice a2 n2 c2] 28)).alloc (.cells (List.toArray [.bool false,.slice none 0 0,.bool false,.slice none 0 0]) 28)=W from hW.symm,World.size_alloc] at HBR;have HW:=qh hW;clear hW;go_enter Tryz.func80,Tryz.ntmps80
 go_upto_region 1 with (fail)
 rw[show(w.alloc (.cells #[.bool s1,.slice a1 n1 c1,.bool s2,.slice a2 n2 c2] 28)).alloc (.cells #[.bool false,.slice none 0 0,.bool false,.slice none 0 0] 28)=W from HW.o.symm];obtain⟨x0,x1,x2,x3,x4,x5⟩:=Ji HB.o;go_wp2_with fail
 refine(CK.o _ HBW.o).mono ?_;rintro e w1 ⟨rfl,hb1⟩;have GB:=qh hb1;have HB1:=qh (HB.o.bl hb1);have HR1:=qh (HBR.o.bl hb1);clear hb1 CK x0 x1 x2 x3 x4 x5;obtain⟨x0,x1,x2,x3,x4,x5⟩:=Ji HB1.o;obtain⟨y0,y1,y2,y3,y4,y5⟩:=Ji HR1.o;go_wp2_with fail
 have hlt:=HB.o.lt;have hlt2:=HBR.o.lt;have hG:=HBW.o.trans (GB.o.mono HBW.o.size);refine bodyPost_ret (Je rfl _ _ _ _ _ _ _ rfl ((((HR1.o.put 0 _).put 1 _).put 2 _).put 3 _) Tryz.underlying28 rfl (by kernel_rfl)) rfl ⟨a1,c1,a2,c2,?_,?_,?_,?_,?_,?_⟩
 ·rw[HT.o.1.1,HT.o.1.2.1,HT.o.2.1,HT.o.2.2.1];rfl
 ·rw[HT.o.1.2.1];have r:RdS w1 B0 (w.heap.size+2) a1 n1 (dgi z1.natAbs):=⟨(HR.o.1.1.congr HT.o.1.2.2).below hG,fun h0 p hp=>Or.inl (HR.o.1.2 h0 p hp)⟩;exact((((r.sz).sz).sz).sz).up (by omega)
 ·rw[HT.o.1.2.1];exact hc1
 ·rw[HT.o.2.2.1];have r:RdS w1 B0 (w.heap.size+2) a2 n2 (dgi z2.natAbs):=⟨(HR.o.2.1.congr HT.o.2.2.2).below hG,fun h0 p hp=>Or.inl (HR.o.2.2 h0 p hp)⟩;exact((((r.sz).sz).sz).sz).up (by omega)
 ·rw[HT.o.2.2.1];exact hc2
 ·exact(((hG.sc).sc).sc).sc
open Classical in
theorem rfit_not (s1:Bool) (a1:Option Addr) (n1 c1:Nat) (o1:Nat->Int) (s2:Bool) (a2:Option Addr) (n2 c2:Nat) (o2:Nat->Int) (w:World) (B0:Nat)
  (h1:Rd w a1 n1 o1) (hn1:n1<=5000000) (hc1:n1<=c1) (h2:Rd w a2 n2 o2) (hn2:n2<=5000000) (hc2:n2<=c2) (hk:¬okF s1 n1 o1 s2 n2 o2) :
  Calls Tryz.prog 80 #[Qg s1 a1 n1 c1 s2 a2 n2 c2] w (VA w B0 0 1):=by
 have CK:=qh (fun (w':World) (hb:Below w.heap.size w w')=>XA s1 a1 n1 c1 o1 s2 a2 n2 c2 o2 w' (h1.below hb) hn1 hc1 (h2.below hb) hn2 hc2);rw[zo hk] at CK;obtain⟨one,hone⟩:∃ one:Int,one=1:=⟨_,rfl⟩;obtain⟨zer,hzer⟩:∃ zer:Int,zer=0:=⟨_,rfl⟩;have OF:=qh (fun (w':World)=>jbx 0 w' (by omega) (by omega));rw[<- hone,<- hzer];have OF:=qh (show ∀ w',Calls Tryz.prog 76 #[.int .i64 0] w' (Kk w' zer one) from fun w'=>by rw[hone,hzer];exact OF.o w');clear hk h1 h2 hone hzer;have HB:=qh ((Bxs.new w 28 [.bool s1,.slice a1 n1 c1,.bool s2,.slice a2 n2 c2]).alloc (.cells #[.bool false,.slice none 0 0,.bool false,.slice none 0 0] 28));have HBR:=qh (Bxs.new (w.alloc (.cells #[.bool s1,.slice a1 n1 c1,.bool s2,.slice a2 n2 c2] 28)) 28 [.bool false,.slice none 0 0,.bool false,.slice none 0 0]);obtain⟨W,hW⟩:∃ W,W=(w.alloc (.cells #[.bool s1,.slice a1 n1 c1,.bool s2,.slice a2 n2 c2] 28)).alloc (.cells #[.bool false,.slice none 0 0,.bool false,.slice none 0 0] 28):=⟨_,rfl⟩;have HBW:=qh (show Below w.heap.size w W by rw[hW];exact(zk.alloc zj _).alloc (by simp) _);rw[show(w.alloc (.cells (List.toArray [.bool s1,.slice a1 n1 c1,.bool s2,.slice a2 n2 c2]) 28)).alloc (.cells #[.bool false,.slice none 0 0,.bool false,.slice none 0 0] 28)=W from hW.symm] at HB;rw[show(w.alloc (.cells #[.bool s1,.slice a1 n1 c1,.bool s2,.slice a2 n2 c2] 28)).alloc (.cells (List.toArray [.bool false,.slice none 0 0,.bool false,.slice none 0 0]) 28)=W from hW.symm,World.size_alloc] at HBR
 have HW:=qh hW;clear hW;go_enter Tryz.func80,Tryz.ntmps80
 go_upto_region 1 with (fail)
 rw[show(w.alloc (.cells #[.bool s1,.slice a1 n1 c1,.bool s2,.slice a2 n2 c2] 28)).alloc (.cells #[.bool false,.slice none 0 0,.bool false,.slice none 0 0] 28)=W from HW.o.symm];obtain⟨x0,x1,x2,x3,x4,x5⟩:=Ji HB.o;go_wp2_with fail
 refine(CK.o _ HBW.o).mono ?_;rintro e w1 ⟨rfl,hb1⟩;have GB:=qh hb1;clear hb1 CK x0 x1 x2 x3 x4 x5;go_wp2_with fail
 refine(OF.o w1).mono ?_;rintro e w2 ⟨t1,d1,t2,d2,rfl,ho1,ho2,hb2⟩;have HO:=qh (And.intro ho1 ho2);have hs1:=GB.o.size;have GB:=qk GB hb2;have HR1:=qh (HBR.o.below GB.o HBR.o.lt);have HS1:=qh hs1;clear ho1 ho2 hb2 hs1;obtain⟨y0,y1,y2,y3,y4,y5⟩:=Ji HR1.o;go_wp2_with fail
 have hlt:=HB.o.lt;have hlt2:=HBR.o.lt;have hs1:=HS1.o;have hG:=HBW.o.trans (GB.o.mono HBW.o.size);refine bodyPost_ret (Je rfl _ _ _ _ _ _ _ rfl ((((HR1.o.put 0 _).put 1 _).put 2 _).put 3 _) Tryz.underlying28 rfl (by kernel_rfl)) rfl ⟨t1,d1,t2,d2,rfl,?_,HO.o.1.le,?_,HO.o.2.le,?_⟩
 ·exact(((((HO.o.1.oz).oz).oz).oz).rdS B0 w.heap.size (by omega))
 ·exact(((((HO.o.2.oz).oz).oz).oz).rdS B0 w.heap.size (by omega))
 ·exact(((hG.sc).sc).sc).sc
theorem Zr (s1:Bool) (a1:Option Addr) (n1 c1:Nat) (o1:Nat->Int) (s2:Bool) (a2:Option Addr) (n2 c2:Nat) (o2:Nat->Int) (w:World) (B0:Nat) (hB0:B0<=w.heap.size)
  (h1:Rd w a1 n1 o1) (hn1:n1<=5000000) (hc1:n1<=c1) (f1:0<n1->∀ p,a1=some p->p.block<B0) (h2:Rd w a2 n2 o2) (hn2:n2<=5000000) (hc2:n2<=c2) (f2:0<n2->∀ p,a2=some p->p.block<B0) :
  Calls Tryz.prog 80 #[Qg s1 a1 n1 c1 s2 a2 n2 c2] w (VA w B0 (Xh s1 n1 o1 s2 n2 o2).num ((Xh s1 n1 o1 s2 n2 o2).den:Int)):=by
 by_cases hk:okF s1 n1 o1 s2 n2 o2
 ·obtain⟨e1,e2⟩:=Ku hk;rw[e1,e2];exact rfit_ok s1 a1 n1 c1 o1 s2 a2 n2 c2 o2 w B0 hB0 h1 hn1 hc1 f1 h2 hn2 hc2 f2 hk
 ·rw[Ke hk];exact rfit_not s1 a1 n1 c1 o1 s2 a2 n2 c2 o2 w B0 h1 hn1 hc1 h2 hn2 hc2 hk
end Limb
end Go.Proofs.YtgkkbkoiaccmfaaGreatDoor
