/-
  The law's helpers on fractions: SameFrac, LeftFrac, TwinFrac, great.
-/
import Derived.Test.YthacfgmdihcffaaGreatDoorPzRK
set_option linter.unusedSimpArgs false
set_option linter.unusedVariables false
set_option maxHeartbeats 16000000
set_option maxRecDepth 100000
namespace Go.Proofs.YthacfgmdihcffaaGreatDoor
namespace Limb
open Go.RowKit Go.Sort Go.Fresh
theorem rfsign_any (s1:Bool) (a1:Option Addr) (n1 c1:Nat) (o1:Nat->Int) (s2:Bool) (a2:Option Addr) (n2 c2:Nat) (o2:Nat->Int) (w:World) (x:Rat) (hx:x=valF s1 n1 o1 s2 n2 o2)
  (h1:Rd w a1 n1 o1) (hn1:n1<=1000000) (hc1:n1<=c1) (h2:Rd w a2 n2 o2) (hn2:n2<=1000000) (hc2:n2<=c2) :
  Calls Tryz.prog 150 #[fracV s1 a1 n1 c1 s2 a2 n2 c2] w fun e w'=>e=.returned (.int .i64 (cmpZ x.num 0))/\Below w.heap.size w w':=by
 have hfar:∀ {a:Option Addr} {n:Nat} {o:Nat->Int},Rd w a n o->0<n->∀ p,a=some p->p.block<w.heap.size:=fun h h0 p hp=>by
  obtain⟨b,off,e,hc⟩:=h.cells h0
  rw[e] at hp;cases hp
  exact block_lt_of_cell (hc 0 h0)
 have l1:=valF_len (s1:=s1) (s2:=s2) h1.rng h2.rng;rw[<- hx] at l1;have HL:=qh (show lenB x.num.natAbs<=1000001 by omega);have HB1:=qh (Bxs.new w 32 [.bool s1,.slice a1 n1 c1,.bool s2,.slice a2 n2 c2]);obtain⟨W,hW⟩:∃ W,W=w.alloc (.cells #[.bool s1,.slice a1 n1 c1,.bool s2,.slice a2 n2 c2] 32):=⟨_,rfl⟩;have KG:=qh (show Below w.heap.size w W by rw[hW];exact zk.alloc zj _);have HB1:=qh (show Bxs W w.heap.size 32 [.bool s1,.slice a1 n1 c1,.bool s2,.slice a2 n2 c2] by rw[hW];exact HB1.o);have OX:=qh (rfit_any s1 a1 n1 c1 o1 s2 a2 n2 c2 o2 W w.heap.size KG.o.size (h1.below KG.o) (by omega) hc1 (hfar h1) (h2.below KG.o) (by omega) hc2 (hfar h2));rw[<- hx] at OX;obtain⟨p,hp⟩:∃ p,p=x.num:=⟨_,rfl⟩;obtain⟨q,hq⟩:∃ q:Int,q=(x.den:Int):=⟨_,rfl⟩;rw[<- hp,<- hq] at OX;rw[<- hp] at HL ⊢;have HW:=qh hW;clear hW h1 h2 l1 hfar hx hp hq;go_enter Tryz.func150,Tryz.ntmps150
 go_upto_region 1 with (fail)
 rw[show w.alloc (.cells #[.bool s1,.slice a1 n1 c1,.bool s2,.slice a2 n2 c2] 32)=W from HW.o.symm];clear HW;obtain⟨x0,x1,x2,x3,x4,x5⟩:=frac_box HB1.o;go_wp2_with fail
 with_reducible refine OX.o.mono ?_
 intro e w2 hh;obtain⟨⟨za,zc,zb,zd⟩,rfl,hi,hb⟩:=fracS_ex hh;have hff:=field_frac (decide (p<0)) za (lenB p.natAbs) zc (decide (q<0)) zb (lenB q.natAbs) zd w2;have SG:=qh (rsign_any (decide (p<0)) za (lenB p.natAbs) zc (dgi p.natAbs) w2 hi.r1.rd (by have:=HL.o;omega) hi.c1);rw[canon_val] at SG;have KG:=qk KG hb;clear hh hi hb OX x0 x1 x2 x3 x4 x5 HB1;go_wp2_with fail
 with_reducible refine SG.o.mono ?_
 rintro e w3 ⟨rfl,hb⟩;have KG:=qk KG hb;clear hb SG;go_wp2_with fail
 go_ret;exact⟨rfl,KG.o⟩
open Classical in
theorem rfneg_any (s1:Bool) (a1:Option Addr) (n1 c1:Nat) (o1:Nat->Int) (s2:Bool) (a2:Option Addr) (n2 c2:Nat) (o2:Nat->Int) (w:World) (x:Rat) (hx:x=valF s1 n1 o1 s2 n2 o2) (h1:Rd w a1 n1 o1) (hn1:n1<=1000000) (hc1:n1<=c1) (h2:Rd w a2 n2 o2) (hn2:n2<=1000000) (hc2:n2<=c2) :
  Calls Tryz.prog 108 #[fracV s1 a1 n1 c1 s2 a2 n2 c2] w (FracF w (-x).num ((-x).den:Int)):=by
 have hfar:∀ {a:Option Addr} {n:Nat} {o:Nat->Int},Rd w a n o->0<n->∀ p,a=some p->p.block<w.heap.size:=fun h h0 p hp=>by
  obtain⟨b,off,e,hc⟩:=h.cells h0
  rw[e] at hp;cases hp
  exact block_lt_of_cell (hc 0 h0)
 have l1:=valF_len (s1:=s1) (s2:=s2) h1.rng h2.rng;rw[<- hx] at l1;obtain⟨p,hp⟩:∃ p,p=x.num:=⟨_,rfl⟩;obtain⟨q,hq⟩:∃ q:Int,q=(x.den:Int):=⟨_,rfl⟩;rw[<- hp,<- hq] at l1;have HL:=qh (show lenB p.natAbs<=1000001/\lenB q.natAbs<=1000001 by omega);have HP:=qh (And.intro hx (And.intro hp hq));have HF:=qh (And.intro (hfar h1) (hfar h2));obtain⟨np,hnp⟩:∃ np,np = -p:=⟨_,rfl⟩;have HE:=qh (show(-x).num=np/\((-x).den:Int)=q by rw[hnp,hp,hq,Rat.neg_num,Rat.neg_den];exact⟨rfl,rfl⟩);have HNP:=qh hnp;rw[HE.o.1,HE.o.2];clear hnp;have HB1:=qh ((Bxs.new (w) 32 [.bool s1,.slice a1 n1 c1,.bool s2,.slice a2 n2 c2]).alloc (.cells #[.bool false,.slice none 0 0,.bool false,.slice none 0 0] 32));have HB2:=qh (Bxs.new (w.alloc (.cells #[.bool s1,.slice a1 n1 c1,.bool s2,.slice a2 n2 c2] 32)) 32 [.bool false,.slice none 0 0,.bool false,.slice none 0 0]);obtain⟨W,hW⟩:∃ W,W=(w.alloc (.cells #[.bool s1,.slice a1 n1 c1,.bool s2,.slice a2 n2 c2] 32)).alloc (.cells #[.bool false,.slice none 0 0,.bool false,.slice none 0 0] 32):=⟨_,rfl⟩;have KG:=qh (show Below w.heap.size w W by rw[hW];exact(zk.alloc zj _).alloc (by go_size) _);have HWS:=qh (show w.heap.size+2<=W.heap.size by rw[hW];simp only[World.size_alloc];omega);have HB1:=qh (show Bxs W (w.heap.size) 32 [.bool s1,.slice a1 n1 c1,.bool s2,.slice a2 n2 c2] by have h:=HB1.o;rw[hW];exact h);have HB2:=qh (show Bxs W (w.heap.size+1) 32 [.bool false,.slice none 0 0,.bool false,.slice none 0 0] by have h:=HB2.o;simp only[World.size_alloc] at h;rw[hW];exact h)
 have HW:=qh hW;clear hW;have HR1:=qh (show RdS W w.heap.size (w.heap.size+2) a1 n1 o1 from⟨h1.below KG.o,fun h0 p hp=>Or.inl (hfar h1 h0 p hp)⟩);have HR2:=qh (show RdS W w.heap.size (w.heap.size+2) a2 n2 o2 from⟨h2.below KG.o,fun h0 p hp=>Or.inl (hfar h2 h0 p hp)⟩);clear hx hp hq l1 h1 h2 hfar;go_enter Tryz.func108,Tryz.ntmps108
 go_upto_region 1 with (fail)
 rw[show(w.alloc (.cells #[.bool s1,.slice a1 n1 c1,.bool s2,.slice a2 n2 c2] 32)).alloc (.cells #[.bool false,.slice none 0 0,.bool false,.slice none 0 0] 32)=W from HW.o.symm];clear HW;have FT:=qh (fun (w':World) (hb:Below W.heap.size W w')=>rfit_any s1 a1 n1 c1 o1 s2 a2 n2 c2 o2 w' w.heap.size (by have:=HWS.o;have:=hb.size;omega) (HR1.o.rd.below hb) (by omega) hc1 HF.o.1 (HR2.o.rd.below hb) (by omega) hc2 HF.o.2);rw[<- HP.o.1,<- HP.o.2.1,<- HP.o.2.2] at FT;have b1c0:=HB1.o.ce 0;have b1c1:=HB1.o.ce 1;have b1c2:=HB1.o.ce 2;have b1c3:=HB1.o.ce 3;have b1f:=HB1.o.fz;have b1l:=HB1.o.lt;go_wp2_with fail
 with_reducible refine(FT.o _ zk).mono ?_
 intro e w1 hh;obtain⟨xa,rfl,hi,hb⟩:=fracS_ex hh;have HIxa:=qh (hi.up HWS.o);clear b1c0 b1c1 b1c2 b1c3 b1f b1l;clear hh hi FT;have HB1:=qh (HB1.o.bl hb);have HB2:=qh (HB2.o.bl hb);have HR1:=qh (HR1.o.below hb);have HR2:=qh (HR2.o.below hb);have HWS:=qh (zm HWS.o hb.size);have KG:=qk KG hb;clear hb;have b1c0:=HB1.o.ce 0;have b1c1:=HB1.o.ce 1;have b1c2:=HB1.o.ce 2;have b1c3:=HB1.o.ce 3;have b1f:=HB1.o.fz;have b1l:=HB1.o.lt
 go_upto_region 2 with (fail)
 obtain⟨v2,hV⟩:∃ V,V=(((w1.setCell ⟨w.heap.size,0,none⟩ (.bool (decide (p<0)))).setCell ⟨w.heap.size,1,none⟩ (.slice xa.1 (lenB p.natAbs) xa.2.1)).setCell ⟨w.heap.size,2,none⟩ (.bool (decide (q<0)))).setCell ⟨w.heap.size,3,none⟩ (.slice xa.2.2.1 (lenB q.natAbs) xa.2.2.2):=⟨_,rfl⟩;have HB1:=qh (show Bxs v2 (w.heap.size) 32 [.bool (decide (p<0)),.slice xa.1 (lenB p.natAbs) xa.2.1,.bool (decide (q<0)),.slice xa.2.2.1 (lenB q.natAbs) xa.2.2.2] by rw[hV];exact((((HB1.o).put 0 _).put 1 _).put 2 _).put 3 _);have HB2:=qh (show Bxs v2 (w.heap.size+1) 32 [.bool false,.slice none 0 0,.bool false,.slice none 0 0] by rw[hV];exact((((HB2.o).oz).oz).oz).oz)
 have hsin:Sin w.heap.size (w.heap.size+2) w1 v2:=by rw[hV];exact((((Sin.refl _ _ _).sz).sz).sz).sz
 have HR1:=qh (HR1.o.sin hsin);have HR2:=qh (HR2.o.sin hsin);have HIxa:=qh (HIxa.o.sin hsin);clear hsin;have KG:=qh (show Below w.heap.size w v2 by rw[hV];exact((((KG.o).sc).sc).sc).sc);have HWS:=qh (show w.heap.size+2<=v2.heap.size by rw[hV];simp only[World.size_setCell];have:=HWS.o;omega);rw[show(((w1.setCell ⟨w.heap.size,0,none⟩ (.bool (decide (p<0)))).setCell ⟨w.heap.size,1,none⟩ (.slice xa.1 (lenB p.natAbs) xa.2.1)).setCell ⟨w.heap.size,2,none⟩ (.bool (decide (q<0)))).setCell ⟨w.heap.size,3,none⟩ (.slice xa.2.2.1 (lenB q.natAbs) xa.2.2.2)=v2 from hV.symm];clear hV;clear b1c0 b1c1 b1c2 b1c3 b1f b1l;clear HR1 HR2;have NG:=qh (fun (w':World) (hb:Below v2.heap.size v2 w')=>rneg_any (decide (p<0)) xa.1 (lenB p.natAbs) xa.2.1 (dgi p.natAbs) w' (HIxa.o.r1.rd.below hb) (by have:=HL.o;omega) HIxa.o.c1);rw[canon_val,<- HNP.o] at NG;have HS:=qh (fun (w':World) (hb:Below v2.heap.size v2 w')=>frac_box (HB1.o.bl hb))
 refine wp_region_fresh 5 (spOf [(2,Sp.made (fun x:Option Addr × Nat=>numV (decide (np<0)) x.1 (lenB np.natAbs) x.2) (fun x w'=>Own 128 w' v2.heap.size x.1 (lenB np.natAbs) x.2 (dgi np.natAbs)))]) (fun w'=>Below v2.heap.size v2 w') (by kernel_rfl) (by kernel_rfl)
  (spOf_cons (Sp.made_keeps fun x w w' h hb=>h.below hb) (spOf_nil)) (fun _ _ h hb=>h.trans (hb.mono h.size)) (zk.drew) ?_
 simp only[zx,zy,zv,zw]
 iterate 2
  (refine wpF_reads rfl rfl ?_ (fun w' hw'=>?_) ?_;rotate_left;· (have hb':=Has.world hw';(obtain⟨k0,k1,k2,k3,k4,k5⟩:=(HS.o _ hb'));clear hw';go_simp;try rfl))
  conv=>arg 9;simp only[Act.put,zq0,zq1,zq2]
 (refine wpF_spec rfl rfl (fun w' hw'=>?_) ?_;· (have hb':=Has.world hw';go_simp;((refine(NG.o w' hb').mono ?_;rintro e w'' ⟨za,zb,rfl,ho,hb⟩;exact⟨_,rfl,⟨⟨za,zb,rfl⟩,⟨za,zb,rfl,ho.mono hb'.size⟩⟩,hb⟩))))
 rintro _ ⟨y2,rfl⟩
 conv=>arg 9;simp only[Act.put,zq0,zq1,zq2]
 iterate 2
  (refine wpF_reads rfl rfl ?_ (fun w' hw'=>?_) ?_;rotate_left;· (have hb':=Has.world hw';(obtain⟨k0,k1,k2,k3,k4,k5⟩:=(HS.o _ hb'));clear hw';go_simp;try rfl))
  conv=>arg 9;simp only[Act.put,zq0,zq1,zq2]
 refine wpF_nil (fun w3 hb hF=>?_);have HO2:=qh (Own.mono (own_numc (T:=128) (x:=y2) (b:=v2.heap.size) (s:=decide (np<0)) (L:=lenB np.natAbs) (o:=dgi np.natAbs) (hF 2)) HWS.o);clear hF HS;have HB1:=qh (HB1.o.bl hb);have HB2:=qh (HB2.o.bl hb);have HIxa:=qh (HIxa.o.below hb);have HWS:=qh (zm HWS.o hb.size);have KG:=qk KG hb;clear hb;clear NG;have TW:=qh (fun (w':World) (hb:Below w3.heap.size w3 w')=>twin_any (decide (q<0)) xa.2.2.1 (lenB q.natAbs) xa.2.2.2 (dgi q.natAbs) w' (HIxa.o.r2.rd.below hb) (by have:=HL.o;omega));have b2c0:=HB2.o.ce 0;have b2c1:=HB2.o.ce 1;have b2c2:=HB2.o.ce 2;have b2c3:=HB2.o.ce 3;have b2f:=HB2.o.fz;have b2l:=HB2.o.lt;go_wp2_with fail
 with_reducible refine(TW.o _ zk).mono ?_
 rintro e w4 ⟨m2,e2,rfl,ho2,-,hb⟩;have HQ2:=qh (ho2.mono HWS.o);clear ho2;clear b2c0 b2c1 b2c2 b2c3 b2f b2l;have HB1:=qh (HB1.o.bl hb);have HB2:=qh (HB2.o.bl hb);have HIxa:=qh (HIxa.o.below hb);have HO2:=qh (HO2.o.below hb);have HWS:=qh (zm HWS.o hb.size);have KG:=qk KG hb;clear hb;clear TW;have b2c0:=HB2.o.ce 0;have b2c1:=HB2.o.ce 1;have b2c2:=HB2.o.ce 2;have b2c3:=HB2.o.ce 3;have b2f:=HB2.o.fz;have b2l:=HB2.o.lt;go_wp2_with fail
 have hws:=HWS.o;refine bodyPost_ret (results_cell rfl _ _ _ _ _ _ _ rfl (((((HB2.o).put 0 _).put 1 _).put 2 _).put 3 _) Tryz.underlying32 rfl (by kernel_rfl)) rfl ?_;refine⟨y2.1,y2.2,m2,e2,rfl,?_,?_,?_⟩
 ·exact(((((HO2.o).oz).oz).oz).oz).mono (by omega)
 ·exact(((((HQ2.o).oz).oz).oz).oz).mono (by omega)
 ·exact((((KG.o).sc).sc).sc).sc
theorem divInt_len (t l:Int) (hl:l≠0):lenB (Rat.divInt t l).num.natAbs<=lenB t.natAbs/\lenB ((Rat.divInt t l).den:Int).natAbs<=lenB l.natAbs:=by
 rw[<- low_num t l hl,<- low_den t l hl];exact⟨lenB_mono (Int.natAbs_ediv_le_natAbs _ _),lenB_mono (Int.natAbs_ediv_le_natAbs _ _)⟩
theorem add_len {x y:Rat} {k:Nat} (h1:lenB x.num.natAbs<=k) (h2:lenB (x.den:Int).natAbs<=k) (h3:lenB y.num.natAbs<=k) (h4:lenB (y.den:Int).natAbs<=k):lenB (x+y).num.natAbs<=2*k+1/\lenB ((x+y).den:Int).natAbs<=2*k:=by
 rw[<- rat_add x y];have h:=divInt_len (x.num*(y.den:Int)+y.num*(x.den:Int)) ((x.den:Int)*(y.den:Int)) (Int.ne_of_gt (Int.mul_pos (rat_pos x) (rat_pos y)));have hl1:=lenB_mul_le x.num.natAbs (y.den:Int).natAbs;have hl2:=lenB_mul_le y.num.natAbs (x.den:Int).natAbs;have hl3:=lenB_mul_le (x.den:Int).natAbs (y.den:Int).natAbs;rw[<- Int.natAbs_mul] at hl1 hl2 hl3;have hl5:=lenB_add (x.num*(y.den:Int)) (y.num*(x.den:Int));omega
theorem mul_len {x y:Rat} {k:Nat} (h1:lenB x.num.natAbs<=k) (h2:lenB (x.den:Int).natAbs<=k) (h3:lenB y.num.natAbs<=k) (h4:lenB (y.den:Int).natAbs<=k):lenB (x*y).num.natAbs<=2*k/\lenB ((x*y).den:Int).natAbs<=2*k:=by
 have e:Rat.divInt (x.num*y.num) ((x.den:Int)*(y.den:Int))=x*y:=by rw[Rat.mul_def',<- Rat.divInt_ofNat,Int.natCast_mul]
 rw[<- e];have h:=divInt_len (x.num*y.num) ((x.den:Int)*(y.den:Int)) (Int.ne_of_gt (Int.mul_pos (rat_pos x) (rat_pos y)));have hl1:=lenB_mul_le x.num.natAbs y.num.natAbs;have hl3:=lenB_mul_le (x.den:Int).natAbs (y.den:Int).natAbs;rw[<- Int.natAbs_mul] at hl1 hl3;omega
theorem leftFrac_any (s1:Bool) (p1:Nat) (a1:Option Addr) (n1 c1:Nat) (o1:Nat->Int) (s2:Bool) (p2:Nat) (a2:Option Addr) (n2 c2:Nat) (o2:Nat->Int) (w:World) (g1:Rd w (some ⟨p1,0,none⟩) (n1+1) (tw o1 n1)) (h1:Rd w a1 n1 o1) (hn1:n1<=1000000000) (g2:Rd w (some ⟨p2,0,none⟩) (n2+1) (tw o2 n2)) (h2:Rd w a2 n2 o2) (hn2:n2<=1000000000) :
  Calls Tryz.prog 115 #[fracV s1 (some ⟨p1,0,none⟩) n1 (n1+1) s2 (some ⟨p2,0,none⟩) n2 (n2+1),fracV s1 a1 n1 c1 s2 a2 n2 c2] w fun e w'=>e=.returned (.bool true)/\Below w.heap.size w w':=by
 have HB1:=qh ((Bxs.new (w) 32 [.bool s1,.slice (some ⟨p1,0,none⟩) n1 (n1+1),.bool s2,.slice (some ⟨p2,0,none⟩) n2 (n2+1)]).alloc (.cells #[.bool s1,.slice a1 n1 c1,.bool s2,.slice a2 n2 c2] 32));have HB2:=qh (Bxs.new (w.alloc (.cells #[.bool s1,.slice (some ⟨p1,0,none⟩) n1 (n1+1),.bool s2,.slice (some ⟨p2,0,none⟩) n2 (n2+1)] 32)) 32 [.bool s1,.slice a1 n1 c1,.bool s2,.slice a2 n2 c2]);obtain⟨W,hW⟩:∃ W,W=(w.alloc (.cells #[.bool s1,.slice (some ⟨p1,0,none⟩) n1 (n1+1),.bool s2,.slice (some ⟨p2,0,none⟩) n2 (n2+1)] 32)).alloc (.cells #[.bool s1,.slice a1 n1 c1,.bool s2,.slice a2 n2 c2] 32):=⟨_,rfl⟩;have KG:=qh (show Below w.heap.size w W by rw[hW];exact(zk.alloc zj _).alloc (by go_size) _);have HWS:=qh (show w.heap.size+2<=W.heap.size by rw[hW];simp only[World.size_alloc];omega);have HB1:=qh (show Bxs W (w.heap.size) 32 [.bool s1,.slice (some ⟨p1,0,none⟩) n1 (n1+1),.bool s2,.slice (some ⟨p2,0,none⟩) n2 (n2+1)] by have h:=HB1.o;rw[hW];exact h);have HB2:=qh (show Bxs W (w.heap.size+1) 32 [.bool s1,.slice a1 n1 c1,.bool s2,.slice a2 n2 c2] by have h:=HB2.o;simp only[World.size_alloc] at h;rw[hW];exact h);have HW:=qh hW;clear hW;have SA:=qh (fun (w':World) (hb:Below w.heap.size w w')=>leftNum_any s1 p1 a1 n1 c1 o1 w' (g1.below hb) (h1.below hb) hn1);have SB:=qh (fun (w':World) (hb:Below w.heap.size w w')=>leftNum_any s2 p2 a2 n2 c2 o2 w' (g2.below hb) (h2.below hb) hn2);clear h1 g1 h2 g2;go_enter Tryz.func115,Tryz.ntmps115
 go_upto_region 1 with (fail)
 rw[show(w.alloc (.cells #[.bool s1,.slice (some ⟨p1,0,none⟩) n1 (n1+1),.bool s2,.slice (some ⟨p2,0,none⟩) n2 (n2+1)] 32)).alloc (.cells #[.bool s1,.slice a1 n1 c1,.bool s2,.slice a2 n2 c2] 32)=W from HW.o.symm];clear HW;have b1c0:=HB1.o.ce 0;have b1c1:=HB1.o.ce 1;have b1c2:=HB1.o.ce 2;have b1c3:=HB1.o.ce 3;have b1f:=HB1.o.fz;have b1l:=HB1.o.lt;have b2c0:=HB2.o.ce 0;have b2c1:=HB2.o.ce 1;have b2c2:=HB2.o.ce 2;have b2c3:=HB2.o.ce 3;have b2f:=HB2.o.fz;have b2l:=HB2.o.lt;go_wp2_with fail
 with_reducible refine(SA.o _ KG.o).mono ?_
 rintro e w1 ⟨rfl,hb⟩;clear b1c0 b1c1 b1c2 b1c3 b1f b1l b2c0 b2c1 b2c2 b2c3 b2f b2l;have HB1:=qh (HB1.o.bl hb);have HB2:=qh (HB2.o.bl hb);have HWS:=qh (zm HWS.o hb.size);have KG:=qk KG hb;clear hb;clear SA;have b1c0:=HB1.o.ce 0;have b1c1:=HB1.o.ce 1;have b1c2:=HB1.o.ce 2;have b1c3:=HB1.o.ce 3;have b1f:=HB1.o.fz;have b1l:=HB1.o.lt;have b2c0:=HB2.o.ce 0;have b2c1:=HB2.o.ce 1;have b2c2:=HB2.o.ce 2;have b2c3:=HB2.o.ce 3;have b2f:=HB2.o.fz;have b2l:=HB2.o.lt;go_wp2_with fail
 with_reducible refine(SB.o _ KG.o).mono ?_
 rintro e w2 ⟨rfl,hb⟩;clear b1c0 b1c1 b1c2 b1c3 b1f b1l b2c0 b2c1 b2c2 b2c3 b2f b2l;have HB1:=qh (HB1.o.bl hb);have HB2:=qh (HB2.o.bl hb);have HWS:=qh (zm HWS.o hb.size);have KG:=qk KG hb;clear hb;clear SB;go_wp2_with fail
 go_ret;exact⟨rfl,KG.o⟩
theorem twinFrac_any (s1:Bool) (a1:Option Addr) (n1 c1:Nat) (o1:Nat->Int) (s2:Bool) (a2:Option Addr) (n2 c2:Nat) (o2:Nat->Int) (w:World) (h1:Rd w a1 n1 o1) (hn1:n1<=100000000) (h2:Rd w a2 n2 o2) (hn2:n2<=100000000) :
  Calls Tryz.prog 99 #[fracV s1 a1 n1 c1 s2 a2 n2 c2] w fun e w'=>∃ g1 g2,e=.returned (fracV s1 (some ⟨g1,0,none⟩) n1 (n1+1) s2 (some ⟨g2,0,none⟩) n2 (n2+1))/\Own 128 w' w.heap.size (some ⟨g1,0,none⟩) (n1+1) (n1+1) (tw o1 n1)/\Own 128 w' w.heap.size (some ⟨g2,0,none⟩) (n2+1) (n2+1) (tw o2 n2)/\g1≠g2/\Below w.heap.size w w':=by
 have HB1:=qh ((Bxs.new (w) 32 [.bool s1,.slice a1 n1 c1,.bool s2,.slice a2 n2 c2]).alloc (.cells #[.bool false,.slice none 0 0,.bool false,.slice none 0 0] 32));have HB2:=qh (Bxs.new (w.alloc (.cells #[.bool s1,.slice a1 n1 c1,.bool s2,.slice a2 n2 c2] 32)) 32 [.bool false,.slice none 0 0,.bool false,.slice none 0 0]);obtain⟨W,hW⟩:∃ W,W=(w.alloc (.cells #[.bool s1,.slice a1 n1 c1,.bool s2,.slice a2 n2 c2] 32)).alloc (.cells #[.bool false,.slice none 0 0,.bool false,.slice none 0 0] 32):=⟨_,rfl⟩;have KG:=qh (show Below w.heap.size w W by rw[hW];exact(zk.alloc zj _).alloc (by go_size) _);have HWS:=qh (show w.heap.size+2<=W.heap.size by rw[hW];simp only[World.size_alloc];omega);have HB1:=qh (show Bxs W (w.heap.size) 32 [.bool s1,.slice a1 n1 c1,.bool s2,.slice a2 n2 c2] by have h:=HB1.o;rw[hW];exact h);have HB2:=qh (show Bxs W (w.heap.size+1) 32 [.bool false,.slice none 0 0,.bool false,.slice none 0 0] by have h:=HB2.o;simp only[World.size_alloc] at h;rw[hW];exact h);have HW:=qh hW;clear hW;have TA:=qh (fun (w':World) (hb:Below W.heap.size W w')=>twinNum_any s1 a1 n1 c1 o1 w' (h1.below (KG.o.trans (hb.mono KG.o.size))) hn1);have TB:=qh (fun (w':World) (hb:Below W.heap.size W w')=>twinNum_any s2 a2 n2 c2 o2 w' (h2.below (KG.o.trans (hb.mono KG.o.size))) hn2);have HWS0:=qh HWS.o;clear h1 h2;go_enter Tryz.func99,Tryz.ntmps99
 go_upto_region 1 with (fail)
 rw[show(w.alloc (.cells #[.bool s1,.slice a1 n1 c1,.bool s2,.slice a2 n2 c2] 32)).alloc (.cells #[.bool false,.slice none 0 0,.bool false,.slice none 0 0] 32)=W from HW.o.symm];clear HW;have HS:=qh (fun (w':World) (hb:Below W.heap.size W w')=>frac_box (HB1.o.bl hb))
 refine wp_region_fresh 5 (spOf [(2,Sp.made (fun g:Nat=>numV s1 (some ⟨g,0,none⟩) n1 (n1+1)) (fun g w'=>Own 128 w' W.heap.size (some ⟨g,0,none⟩) (n1+1) (n1+1) (tw o1 n1)))]) (fun w'=>Below W.heap.size W w') (by kernel_rfl) (by kernel_rfl)
  (spOf_cons (Sp.made_keeps fun x w w' h hb=>h.below hb) spOf_nil) (fun _ _ h hb=>h.trans (hb.mono h.size)) (zk.drew) ?_
 simp only[zx,zy,zv,zw]
 iterate 2
  (refine wpF_reads rfl rfl ?_ (fun w' hw'=>?_) ?_;rotate_left;· (have hb':=Has.world hw';(obtain⟨k0,k1,k2,k3,k4,k5⟩:=HS.o _ hb');clear hw';go_simp;try rfl))
  conv=>arg 9;simp only[Act.put,zq0,zq1,zq2]
 (refine wpF_spec rfl rfl (fun w' hw'=>?_) ?_;· (have hb':=Has.world hw';go_simp;((refine(TA.o w' hb').mono ?_;rintro e w'' ⟨g,rfl,hO,hb⟩;exact⟨_,rfl,⟨⟨g,rfl⟩,⟨g,rfl,hO.mono hb'.size⟩⟩,hb⟩))))
 rintro _ ⟨g,rfl⟩
 conv=>arg 9;simp only[Act.put,zq0,zq1,zq2]
 iterate 2
  (refine wpF_reads rfl rfl ?_ (fun w' hw'=>?_) ?_;rotate_left;· (have hb':=Has.world hw';(obtain⟨k0,k1,k2,k3,k4,k5⟩:=HS.o _ hb');clear hw';go_simp;try rfl))
  conv=>arg 9;simp only[Act.put,zq0,zq1,zq2]
 refine wpF_nil (fun w1 hb1 hF=>?_);have HO1:=qh (show Own 128 w1 W.heap.size (some ⟨g,0,none⟩) (n1+1) (n1+1) (tw o1 n1) by obtain⟨x,e,h⟩:=hF 2;cases e;exact h);have T2:=qh (TB.o w1 hb1);clear hF HS TA TB;have HB1:=qh (HB1.o.bl hb1);have HB2:=qh (HB2.o.bl hb1);have HWS:=qh (zm HWS.o hb1.size);have KG:=qk KG hb1;clear hb1;go_wp2_with fail
 with_reducible refine T2.o.mono ?_
 rintro e w2 ⟨g2,rfl,hO2,hb⟩
 have HNE:=qh (show g≠g2 by
  have h1:=(HO1.o.blk rfl).2.2;have h2:=(hO2.blk rfl).2.1;dsimp only at h1 h2
  omega)
 have HO2:=qh (hO2.mono HWS.o);clear hO2 T2;have HB1:=qh (HB1.o.bl hb);have HB2:=qh (HB2.o.bl hb);have HO1:=qh (HO1.o.below hb);have HWS:=qh (zm HWS.o hb.size);have KG:=qk KG hb;clear hb;have HO1:=qh (HO1.o.mono (show w.heap.size+2<=W.heap.size from HWS0.o));have b2c0:=HB2.o.ce 0;have b2c1:=HB2.o.ce 1;have b2c2:=HB2.o.ce 2;have b2c3:=HB2.o.ce 3;have b2f:=HB2.o.fz;have b2l:=HB2.o.lt;go_wp2_with fail
 have hws:=HWS.o;refine bodyPost_ret (results_cell rfl _ _ _ _ _ _ _ rfl (((((HB2.o).put 0 _).put 1 _).put 2 _).put 3 _) Tryz.underlying32 rfl (by kernel_rfl)) rfl ?_;refine⟨g,g2,rfl,?_,?_,HNE.o,?_⟩
 ·exact(((((HO1.o).oz).oz).oz).oz).mono (by omega)
 ·exact(((((HO2.o).oz).oz).oz).oz).mono (by omega)
 ·exact((((KG.o).sc).sc).sc).sc
end Limb
end Go.Proofs.YthacfgmdihcffaaGreatDoor
