/-
  The law's helpers on fractions: SameFrac, LeftFrac, TwinFrac, great.
-/
import Derived.Test.YtgkkbkoiaccmfaaGreatDoorPzNL
set_option linter.unusedSimpArgs false
set_option linter.unusedVariables false
set_option maxHeartbeats 16000000
set_option maxRecDepth 100000
namespace Go.Proofs.YtgkkbkoiaccmfaaGreatDoor
namespace Limb
open Go.RowKit Go.Sort Go.Fresh
theorem UT (s1:Bool) (p1:Nat) (a1:Option Addr) (n1 c1:Nat) (o1:Nat->Int) (s2:Bool) (p2:Nat) (a2:Option Addr) (n2 c2:Nat) (o2:Nat->Int) (w:World) (g1:Rd w (some ⟨p1,0,none⟩) (n1+1) (tw o1 n1)) (h1:Rd w a1 n1 o1) (hn1:n1<=1000000000) (g2:Rd w (some ⟨p2,0,none⟩) (n2+1) (tw o2 n2)) (h2:Rd w a2 n2 o2) (hn2:n2<=1000000000) :
  Calls Tryz.prog 22 #[JU s1 (some ⟨p1,0,none⟩) n1 (n1+1) s2 (some ⟨p2,0,none⟩) n2 (n2+1),JU s1 a1 n1 c1 s2 a2 n2 c2] w fun e w'=>e=.returned (.bool true)/\Below w.heap.size w w':=by
 have HB1:=qh ((Bxs.new (w) 28 [.bool s1,.slice (some ⟨p1,0,none⟩) n1 (n1+1),.bool s2,.slice (some ⟨p2,0,none⟩) n2 (n2+1)]).alloc (.cells #[.bool s1,.slice a1 n1 c1,.bool s2,.slice a2 n2 c2] 28));have HB2:=qh (Bxs.new (w.alloc (.cells #[.bool s1,.slice (some ⟨p1,0,none⟩) n1 (n1+1),.bool s2,.slice (some ⟨p2,0,none⟩) n2 (n2+1)] 28)) 28 [.bool s1,.slice a1 n1 c1,.bool s2,.slice a2 n2 c2]);obtain⟨W,hW⟩:∃ W,W=(w.alloc (.cells #[.bool s1,.slice (some ⟨p1,0,none⟩) n1 (n1+1),.bool s2,.slice (some ⟨p2,0,none⟩) n2 (n2+1)] 28)).alloc (.cells #[.bool s1,.slice a1 n1 c1,.bool s2,.slice a2 n2 c2] 28):=⟨_,rfl⟩;have KG:=qh (show Below w.heap.size w W by rw[hW];exact(zk.alloc zj _).alloc (by go_size) _);have HWS:=qh (show w.heap.size+2<=W.heap.size by rw[hW];simp only[World.size_alloc];omega);have HB1:=qh (show Bxs W (w.heap.size) 28 [.bool s1,.slice (some ⟨p1,0,none⟩) n1 (n1+1),.bool s2,.slice (some ⟨p2,0,none⟩) n2 (n2+1)] by have h:=HB1.o;rw[hW];exact h);have HB2:=qh (show Bxs W (w.heap.size+1) 28 [.bool s1,.slice a1 n1 c1,.bool s2,.slice a2 n2 c2] by have h:=HB2.o;simp only[World.size_alloc] at h;rw[hW];exact h);have HW:=qh hW;clear hW;have SA:=qh (fun (w':World) (hb:Below w.heap.size w w')=>Yr s1 p1 a1 n1 c1 o1 w' (g1.below hb) (h1.below hb) hn1);have SB:=qh (fun (w':World) (hb:Below w.heap.size w w')=>Yr s2 p2 a2 n2 c2 o2 w' (g2.below hb) (h2.below hb) hn2);clear h1 g1 h2 g2;go_enter Tryz.func22,Tryz.ntmps22
 go_upto_region 1 with (fail)
 rw[show(w.alloc (.cells #[.bool s1,.slice (some ⟨p1,0,none⟩) n1 (n1+1),.bool s2,.slice (some ⟨p2,0,none⟩) n2 (n2+1)] 28)).alloc (.cells #[.bool s1,.slice a1 n1 c1,.bool s2,.slice a2 n2 c2] 28)=W from HW.o.symm];clear HW;have b1c0:=HB1.o.ce 0;have b1c1:=HB1.o.ce 1;have b1c2:=HB1.o.ce 2;have b1c3:=HB1.o.ce 3;have b1f:=HB1.o.fz;have b1l:=HB1.o.lt;have b2c0:=HB2.o.ce 0;have b2c1:=HB2.o.ce 1;have b2c2:=HB2.o.ce 2;have b2c3:=HB2.o.ce 3;have b2f:=HB2.o.fz;have b2l:=HB2.o.lt;go_wp2_with fail
 with_reducible refine(SA.o _ KG.o).mono ?_
 rintro e w1 ⟨rfl,hb⟩;clear b1c0 b1c1 b1c2 b1c3 b1f b1l b2c0 b2c1 b2c2 b2c3 b2f b2l;have HB1:=qh (HB1.o.bl hb);have HB2:=qh (HB2.o.bl hb);have HWS:=qh (zm HWS.o hb.size);have KG:=qk KG hb;clear hb;clear SA;have b1c0:=HB1.o.ce 0;have b1c1:=HB1.o.ce 1;have b1c2:=HB1.o.ce 2;have b1c3:=HB1.o.ce 3;have b1f:=HB1.o.fz;have b1l:=HB1.o.lt;have b2c0:=HB2.o.ce 0;have b2c1:=HB2.o.ce 1;have b2c2:=HB2.o.ce 2;have b2c3:=HB2.o.ce 3;have b2f:=HB2.o.fz;have b2l:=HB2.o.lt;go_wp2_with fail
 with_reducible refine(SB.o _ KG.o).mono ?_
 rintro e w2 ⟨rfl,hb⟩;clear b1c0 b1c1 b1c2 b1c3 b1f b1l b2c0 b2c1 b2c2 b2c3 b2f b2l;have HB1:=qh (HB1.o.bl hb);have HB2:=qh (HB2.o.bl hb);have HWS:=qh (zm HWS.o hb.size);have KG:=qk KG hb;clear hb;clear SB;go_wp2_with fail
 go_ret;exact⟨rfl,KG.o⟩
theorem UU (s1:Bool) (a1:Option Addr) (n1 c1:Nat) (o1:Nat->Int) (s2:Bool) (a2:Option Addr) (n2 c2:Nat) (o2:Nat->Int) (w:World) (h1:Rd w a1 n1 o1) (hn1:n1<=100000000) (h2:Rd w a2 n2 o2) (hn2:n2<=100000000) :
  Calls Tryz.prog 13 #[JU s1 a1 n1 c1 s2 a2 n2 c2] w fun e w'=>∃ g1 g2,e=.returned (JU s1 (some ⟨g1,0,none⟩) n1 (n1+1) s2 (some ⟨g2,0,none⟩) n2 (n2+1))/\Own 160 w' w.heap.size (some ⟨g1,0,none⟩) (n1+1) (n1+1) (tw o1 n1)/\Own 160 w' w.heap.size (some ⟨g2,0,none⟩) (n2+1) (n2+1) (tw o2 n2)/\g1≠g2/\Below w.heap.size w w':=by
 have HB1:=qh ((Bxs.new (w) 28 [.bool s1,.slice a1 n1 c1,.bool s2,.slice a2 n2 c2]).alloc (.cells #[.bool false,.slice none 0 0,.bool false,.slice none 0 0] 28));have HB2:=qh (Bxs.new (w.alloc (.cells #[.bool s1,.slice a1 n1 c1,.bool s2,.slice a2 n2 c2] 28)) 28 [.bool false,.slice none 0 0,.bool false,.slice none 0 0]);obtain⟨W,hW⟩:∃ W,W=(w.alloc (.cells #[.bool s1,.slice a1 n1 c1,.bool s2,.slice a2 n2 c2] 28)).alloc (.cells #[.bool false,.slice none 0 0,.bool false,.slice none 0 0] 28):=⟨_,rfl⟩;have KG:=qh (show Below w.heap.size w W by rw[hW];exact(zk.alloc zj _).alloc (by go_size) _);have HWS:=qh (show w.heap.size+2<=W.heap.size by rw[hW];simp only[World.size_alloc];omega);have HB1:=qh (show Bxs W (w.heap.size) 28 [.bool s1,.slice a1 n1 c1,.bool s2,.slice a2 n2 c2] by have h:=HB1.o;rw[hW];exact h);have HB2:=qh (show Bxs W (w.heap.size+1) 28 [.bool false,.slice none 0 0,.bool false,.slice none 0 0] by have h:=HB2.o;simp only[World.size_alloc] at h;rw[hW];exact h);have HW:=qh hW;clear hW;have TA:=qh (fun (w':World) (hb:Below W.heap.size W w')=>Yt s1 a1 n1 c1 o1 w' (h1.below (KG.o.trans (hb.mono KG.o.size))) hn1);have TB:=qh (fun (w':World) (hb:Below W.heap.size W w')=>Yt s2 a2 n2 c2 o2 w' (h2.below (KG.o.trans (hb.mono KG.o.size))) hn2);have HWS0:=qh HWS.o;clear h1 h2;go_enter Tryz.func13,Tryz.ntmps13
 go_upto_region 1 with (fail)
 rw[show(w.alloc (.cells #[.bool s1,.slice a1 n1 c1,.bool s2,.slice a2 n2 c2] 28)).alloc (.cells #[.bool false,.slice none 0 0,.bool false,.slice none 0 0] 28)=W from HW.o.symm];clear HW;have HS:=qh (fun (w':World) (hb:Below W.heap.size W w')=>Jf (HB1.o.bl hb))
 refine Jb 5 (JM [(2,Sp.made (fun g:Nat=>Jw s1 (some ⟨g,0,none⟩) n1 (n1+1)) (fun g w'=>Own 160 w' W.heap.size (some ⟨g,0,none⟩) (n1+1) (n1+1) (tw o1 n1)))]) (fun w'=>Below W.heap.size W w') (by kernel_rfl) (by kernel_rfl)
  (Jd (Sp.Ji fun x w w' h hb=>h.below hb) Jk) (fun _ _ h hb=>h.trans (hb.mono h.size)) (zk.drew) ?_
 simp only[zx,zy,zv,zw]
 iterate 2
  (refine Jc rfl rfl ?_ (fun w' hw'=>?_) ?_;rotate_left;· (have hb':=Has.world hw';(obtain⟨k0,k1,k2,k3,k4,k5⟩:=HS.o _ hb');clear hw';go_simp;try rfl))
  conv=>arg 9;simp only[Act.put,zq0,zq1,zq2]
 (refine Jg rfl rfl (fun w' hw'=>?_) ?_;· (have hb':=Has.world hw';go_simp;((refine(TA.o w' hb').mono ?_;rintro e w'' ⟨g,rfl,hO,hb⟩;exact⟨_,rfl,⟨⟨g,rfl⟩,⟨g,rfl,hO.mono hb'.size⟩⟩,hb⟩))))
 rintro _ ⟨g,rfl⟩
 conv=>arg 9;simp only[Act.put,zq0,zq1,zq2]
 iterate 2
  (refine Jc rfl rfl ?_ (fun w' hw'=>?_) ?_;rotate_left;· (have hb':=Has.world hw';(obtain⟨k0,k1,k2,k3,k4,k5⟩:=HS.o _ hb');clear hw';go_simp;try rfl))
  conv=>arg 9;simp only[Act.put,zq0,zq1,zq2]
 refine Jn (fun w1 hb1 hF=>?_);have HO1:=qh (show Own 160 w1 W.heap.size (some ⟨g,0,none⟩) (n1+1) (n1+1) (tw o1 n1) by obtain⟨x,e,h⟩:=hF 2;cases e;exact h);have T2:=qh (TB.o w1 hb1);clear hF HS TA TB;have HB1:=qh (HB1.o.bl hb1);have HB2:=qh (HB2.o.bl hb1);have HWS:=qh (zm HWS.o hb1.size);have KG:=qk KG hb1;clear hb1;go_wp2_with fail
 with_reducible refine T2.o.mono ?_
 rintro e w2 ⟨g2,rfl,hO2,hb⟩
 have HNE:=qh (show g≠g2 by
  have h1:=(HO1.o.blk rfl).2.2;have h2:=(hO2.blk rfl).2.1;dsimp only at h1 h2
  omega)
 have HO2:=qh (hO2.mono HWS.o);clear hO2 T2;have HB1:=qh (HB1.o.bl hb);have HB2:=qh (HB2.o.bl hb);have HO1:=qh (HO1.o.below hb);have HWS:=qh (zm HWS.o hb.size);have KG:=qk KG hb;clear hb;have HO1:=qh (HO1.o.mono (show w.heap.size+2<=W.heap.size from HWS0.o));have b2c0:=HB2.o.ce 0;have b2c1:=HB2.o.ce 1;have b2c2:=HB2.o.ce 2;have b2c3:=HB2.o.ce 3;have b2f:=HB2.o.fz;have b2l:=HB2.o.lt;go_wp2_with fail
 have hws:=HWS.o;refine bodyPost_ret (Je rfl _ _ _ _ _ _ _ rfl (((((HB2.o).put 0 _).put 1 _).put 2 _).put 3 _) Tryz.underlying28 rfl (by kernel_rfl)) rfl ?_;refine⟨g,g2,rfl,?_,?_,HNE.o,?_⟩
 ·exact(((((HO1.o).oz).oz).oz).oz).mono (by omega)
 ·exact(((((HO2.o).oz).oz).oz).oz).mono (by omega)
 ·exact((((KG.o).sc).sc).sc).sc
end Limb
end Go.Proofs.YtgkkbkoiaccmfaaGreatDoor
