/-
  The walk of Div of the document's answer for limbs, for two numbers that may be, the second one not 0.
-/
import Derived.Test.YthacfgmdihcffaaGreatDoorPzRG
set_option linter.unusedSimpArgs false
set_option linter.unusedVariables false
set_option maxHeartbeats 16000000
set_option maxRecDepth 100000
namespace Go.Proofs.YthacfgmdihcffaaGreatDoor
namespace Limb
open Go.RowKit Go.Sort Go.Fresh
def DivF (w:World) (x y:Int) (e:Ending) (w':World):Prop :=
 ∃ aq cq ar cr,e=.returned (.tuple #[numV (decide (x/y<0)) aq (lenB (x/y).natAbs) cq,numV (decide (x%y<0)) ar (lenB (x%y).natAbs) cr,.int .i64 0]) /\
  Own 128 w' w.heap.size aq (lenB (x/y).natAbs) cq (dgi (x/y).natAbs)/\Own 128 w' w.heap.size ar (lenB (x%y).natAbs) cr (dgi (x%y).natAbs)/\Below w.heap.size w w'
theorem AmtO.numr {w:World} {lo:Nat} {a:Option Addr} {K c N:Nat} {o:Nat->Int} (h:AmtO w lo a K c N o):Own 128 w lo a (lenB N) c (dgi N):=own_fit h.own h.dig h.sum
open Classical in
theorem rdiv_ok (z1 z2:Int) (a1 a2:Option Addr) (c1 c2:Nat) (w:World) (h1:Rd w a1 (lenB z1.natAbs) (dgi z1.natAbs)) (hn1:lenB z1.natAbs<=10000000) (hc1:lenB z1.natAbs<=c1) (h2:Rd w a2 (lenB z2.natAbs) (dgi z2.natAbs)) (hn2:lenB z2.natAbs<=10000000) (hc2:lenB z2.natAbs<=c2) (hz:z2≠0) :
  Calls Tryz.prog 228 #[numV (decide (z1<0)) a1 (lenB z1.natAbs) c1,numV (decide (z2<0)) a2 (lenB z2.natAbs) c2] w (DivF w z1 z2):=by
 obtain⟨N1,hN1⟩:∃ N1,N1=lenB z1.natAbs:=⟨_,rfl⟩;obtain⟨N2,hN2⟩:∃ N2,N2=lenB z2.natAbs:=⟨_,rfl⟩;obtain⟨s1,hs1⟩:∃ s1,s1=decide (z1<0):=⟨_,rfl⟩;obtain⟨s2,hs2⟩:∃ s2,s2=decide (z2<0):=⟨_,rfl⟩
 have hpos:0<N2:=by rw[hN2];exact pos_of_len.2 (by omega)
 have ok1:=canon_ok z1;have ok2:=canon_ok z2;have HZ:=qh hz;rw[<- hN1,<- hs1] at ok1;rw[<- hN2,<- hs2] at ok2;rw[<- hN1] at h1 hn1 hc1 ⊢;rw[<- hN2] at h2 hn2 hc2 ⊢;rw[<- hs1,<- hs2];have CK1:=qh (fun (w':World) (hb:Below w.heap.size w w')=>rcheck_any s1 a1 N1 c1 (dgi z1.natAbs) w' (h1.below hb) (by omega));have CK2:=qh (fun (w':World) (hb:Below w.heap.size w w')=>rcheck_any s2 a2 N2 c2 (dgi z2.natAbs) w' (h2.below hb) (by omega));rw[decide_eq_true ok1] at CK1;rw[decide_eq_true ok2] at CK2;have HR:=qh (And.intro h1 h2);have HE:=qh (And.intro (And.intro hN1 hN2) (And.intro hs1 hs2));have B1:=((((Bx.new w 30 (.bool s1) (.slice a1 N1 c1)).alloc (.cells #[.bool s2,.slice a2 N2 c2] 30)).alloc (.cells #[.bool false,.slice none 0 0] 30)).alloc (.cells #[.bool false,.slice none 0 0] 30));have B2:=(((Bx.new2 w (.cells #[.bool s1,.slice a1 N1 c1] 30) 30 (.bool s2) (.slice a2 N2 c2)).alloc (.cells #[.bool false,.slice none 0 0] 30)).alloc (.cells #[.bool false,.slice none 0 0] 30));have B3:=((Bx.new3 w (.cells #[.bool s1,.slice a1 N1 c1] 30) (.cells #[.bool s2,.slice a2 N2 c2] 30) 30 (.bool false) (.slice none 0 0)).alloc (.cells #[.bool false,.slice none 0 0] 30));have B4:=(Bx.new4 w (.cells #[.bool s1,.slice a1 N1 c1] 30) (.cells #[.bool s2,.slice a2 N2 c2] 30) (.cells #[.bool false,.slice none 0 0] 30) 30 (.bool false) (.slice none 0 0));clear ok1 ok2 h1 h2 hN1 hN2 hs1 hs2 hz;go_enter Tryz.func228,Tryz.ntmps228
 go_upto_region 1 with (fail)
 obtain⟨W,hW⟩:∃ W,W=((((w.alloc (.cells #[.bool s1,.slice a1 N1 c1] 30)).alloc (.cells #[.bool s2,.slice a2 N2 c2] 30)).alloc (.cells #[.bool false,.slice none 0 0] 30)).alloc (.cells #[.bool false,.slice none 0 0] 30)):=⟨_,rfl⟩;have G1:=qh ((zk.alloc (by go_size) _ |>.alloc (by go_size) _ |>.alloc (by go_size) _ |>.alloc (by go_size) _):Below w.heap.size w ((((w.alloc (.cells #[.bool s1,.slice a1 N1 c1] 30)).alloc (.cells #[.bool s2,.slice a2 N2 c2] 30)).alloc (.cells #[.bool false,.slice none 0 0] 30)).alloc (.cells #[.bool false,.slice none 0 0] 30)))
 have hWs:w.heap.size+1+1+1+1=W.heap.size:=by rw[hW];simp
 rw[<- hW] at B1 B2 B3 B4 G1;rw[show((((w.alloc (.cells #[.bool s1,.slice a1 N1 c1] 30)).alloc (.cells #[.bool s2,.slice a2 N2 c2] 30)).alloc (.cells #[.bool false,.slice none 0 0] 30)).alloc (.cells #[.bool false,.slice none 0 0] 30))=W from hW.symm];clear hW;have HB1:=qh B1;have HB2:=qh B2;have HB3:=qh B3;have HB4:=qh B4;have HWS:=qh hWs;clear B1 B2 B3 B4 hWs
 have fb:=fun (w':World) (hb:Below W.heap.size W w')=>And.intro (HB1.o.bl hb) (And.intro (HB2.o.bl hb) (And.intro (HB3.o.bl hb) (HB4.o.bl hb)))
 have FB:=qh fb;clear fb;obtain⟨b10,b11,b12,b13⟩:=HB1.o.all;obtain⟨b20,b21,b22,b23⟩:=HB2.o.all;go_wp2_with fail
 refine(CK1.o _ G1.o).mono ?_;rintro e w1 ⟨rfl,hb1⟩;have K:=FB.o _ hb1;have GB:=qh hb1;clear b10 b11 b12 b13 b20 b21 b22 b23 hb1;obtain⟨b20,b21,b22,b23⟩:=K.2.1.all;clear K;go_wp2_with fail
 refine(CK2.o _ (G1.o.trans (GB.o.mono G1.o.size))).mono ?_;rintro e w2 ⟨rfl,hb2⟩;have GB:=qk GB hb2;have K:=FB.o _ GB.o;clear b20 b21 b22 b23 hb2 CK1 CK2;obtain⟨b10,b11,b12,b13⟩:=K.1.all;obtain⟨b20,b21,b22,b23⟩:=K.2.1.all;clear K;have hne0:decide ((N2:Int)=0)=false:=zo (by omega)
 have hne1:((N2:Int)==0)=false:=by simp;omega
 have hG2:=G1.o.trans (GB.o.mono G1.o.size);have GO:=qh (goes_any z1.natAbs z2.natAbs a1 a2 N1 N2 c1 c2 w2 (HR.o.1.below hG2) (HR.o.2.below hG2) HE.o.1.1 HE.o.1.2 hn1 hn2 (by have:=HZ.o;omega));clear hG2;go_wp2_with fail
 refine GO.o.mono ?_;rintro e w3 ⟨o1,K1,d1,p1,o2,K2,d2,p2,rfl,hA1,hA2,hap,hb3⟩;have HW2:=qh GB.o.size;have GB:=qk GB hb3;have HA1:=qh hA1;have HA2:=qh hA2;have K:=FB.o _ GB.o;clear hA1 hA2 hap hb3 GO b10 b11 b12 b13 b20 b21 b22 b23;obtain⟨b10,b11,b12,b13⟩:=K.1.all;obtain⟨b20,b21,b22,b23⟩:=K.2.1.all;clear K;obtain⟨sq,hsq⟩:∃ sq,sq=decide (q0 z1 z2<0):=⟨_,rfl⟩;obtain⟨sr,hsr⟩:∃ sr,sr=decide (r0 z1 z2<0):=⟨_,rfl⟩;obtain⟨Lq,hLq⟩:∃ Lq,Lq=lenB (z1.natAbs/z2.natAbs):=⟨_,rfl⟩;obtain⟨Lr,hLr⟩:∃ Lr,Lr=lenB (z1.natAbs%z2.natAbs):=⟨_,rfl⟩;have CQ:=qh (num_own (!(s1==s2)) sq o1 K1 d1 _ w2.heap.size p1 w3 HA1.o.own HA1.o.dig (by have:=HA1.o.le;omega) HA1.o.sum (by rw[HE.o.2.1,HE.o.2.2,hsq];exact q0_sign z1 z2));rw[<- hLq] at CQ;have HSQ:=qh (And.intro (And.intro hsq hsr) (And.intro hLq hLr));clear hsq hsr hLq hLr;go_wp2_with fail
 refine CQ.o.mono ?_;rintro e w4 ⟨rfl,hb4⟩;have GB:=qk GB hb4;have HA1:=qh (HA1.o.below hb4);have HA2:=qh (HA2.o.below hb4);have K:=FB.o _ GB.o;clear hb4 CQ b10 b11 b12 b13 b20 b21 b22 b23;obtain⟨b10,b11,b12,b13⟩:=K.1.all;clear K
 go_upto_region 7 with (fail)
 have hG4:=qh GB.o.size;obtain⟨w5,hw5⟩:∃ w5,w5=w4.alloc (.cells #[.bool sq,.slice o1 Lq d1] 30):=⟨_,rfl⟩
 have hb5:Below w4.heap.size w4 w5:=by rw[hw5];exact zk.alloc zj _
 have HQB:=qh (show Bx w5 w4.heap.size 30 (.bool sq) (.slice o1 Lq d1) by rw[hw5];exact Bx.new w4 _ _ _);rw[show w4.alloc (.cells #[.bool sq,.slice o1 Lq d1] 30)=w5 from hw5.symm];have GB:=qk GB hb5;have HA1:=qh (HA1.o.below hb5);have HA2:=qh (HA2.o.below hb5);obtain⟨bq,hbq⟩:∃ bq,bq=w4.heap.size:=⟨_,rfl⟩;have HBW:=qh (show W.heap.size<=bq by rw[hbq];exact hG4.o);rw[<- hbq] at HQB ⊢;clear hb5 hw5 hbq b10 b11 b12 b13;have K:=FB.o _ GB.o;obtain⟨b10,b11,b12,b13⟩:=K.1.all;clear K;have CR:=qh (num_own s1 sr o2 K2 d2 _ w2.heap.size p2 w5 HA2.o.own HA2.o.dig (by have:=HA2.o.le;omega) HA2.o.sum (by rw[HE.o.2.1,HSQ.o.1.2];exact r0_sign z1 z2));rw[<- HSQ.o.2.2] at CR;go_wp2_with fail
 refine CR.o.mono ?_;rintro e w6 ⟨rfl,hb6⟩;have GB:=qk GB hb6;have HA1:=qh (HA1.o.below hb6);have HA2:=qh (HA2.o.below hb6);have HQB:=qh (HQB.o.bl hb6);clear hb6 CR b10 b11 b12 b13
 go_upto_region 8 with (fail)
 obtain⟨V,hV⟩:∃ V,V=w6.alloc (.cells #[.bool sr,.slice o2 Lr d2] 30):=⟨_,rfl⟩
 have hbV:Below w6.heap.size w6 V:=by rw[hV];exact zk.alloc zj _
 have HRB:=qh (show Bx V w6.heap.size 30 (.bool sr) (.slice o2 Lr d2) by rw[hV];exact Bx.new w6 _ _ _);rw[show w6.alloc (.cells #[.bool sr,.slice o2 Lr d2] 30)=V from hV.symm];have GB:=qk GB hbV;have HQ:=qh (HA1.o.below hbV);have HRM:=qh (HA2.o.below hbV);have hq6:=HQB.o.lt;have HQB:=qh (HQB.o.bl hbV);obtain⟨br,hbr⟩:∃ br,br=w6.heap.size:=⟨_,rfl⟩
 have hbqr:bq<br:=by rw[hbr];exact hq6
 clear hq6;rw[<- hbr] at HRB ⊢;have HBQ:=qh hbqr;clear hbV hV hbr hbqr HA1 HA2;have HK:=qh (FB.o _ GB.o);have HGV:=qh (G1.o.trans (GB.o.mono G1.o.size));obtain⟨b10,b11,b12,b13⟩:=HQB.o.all;obtain⟨b20,b21,b22,b23⟩:=HRB.o.all;obtain⟨b30,b31,b32,b33⟩:=HK.o.2.2.1.all;obtain⟨b40,b41,b42,b43⟩:=HK.o.2.2.2.all;have hws:=HWS.o;have hbw:=HBW.o;have hbb:=HBQ.o
 have ne1:¬bq=w.heap.size+1+1:=by omega
 have ne2:¬bq=w.heap.size+1+1+1:=by omega
 have ne3:¬br=w.heap.size+1+1:=by omega
 have ne4:¬br=w.heap.size+1+1+1:=by omega
 have ne5:¬w.heap.size+1+1=bq:=by omega
 have ne6:¬w.heap.size+1+1+1=bq:=by omega
 have ne7:¬w.heap.size+1+1=br:=by omega
 have ne8:¬w.heap.size+1+1+1=br:=by omega
 clear hws hbw hbb;by_cases hng:r0 z1 z2<0
 ·have esr:sr=true:=HSQ.o.1.2.trans (decide_eq_true hng);have DS:=qh (div_down HZ.o hng);subst esr;clear hng;have OF:=qh (rof64_any 1 V (by omega) (by omega));go_wp2_with fail
  refine OF.o.mono ?_;rintro e w7 ⟨ay,cy,rfl,hoy,hb7⟩;rw[show(1:Int).natAbs=1 from rfl] at hoy;have HOY:=qh hoy;have HB7:=qh hb7;have HB2:=qh (HK.o.2.1.below hb7 HK.o.2.1.lt);clear hoy hb7 OF b10 b11 b12 b13 b20 b21 b22 b23 b30 b31 b32 b33 b40 b41 b42 b43;obtain⟨b20,b21,b22,b23⟩:=HB2.o.all;obtain⟨Q,hQ⟩:∃ Q,Q=z1/z2:=⟨_,rfl⟩;obtain⟨R,hR⟩:∃ R,R=z1%z2:=⟨_,rfl⟩;have HQR:=qh (And.intro hQ hR)
  have hq1:valN sq Lq (dgi (z1.natAbs/z2.natAbs))=q0 z1 z2:=by rw[HSQ.o.1.1,HSQ.o.2.1,<- q0_abs,canon_val]
  have hr1:valN true Lr (dgi (z1.natAbs%z2.natAbs))=r0 z1 z2:=by rw[HSQ.o.1.2,HSQ.o.2.2,<- r0_abs,canon_val]
  have ho1:valN false (lenB 1) (dgi 1)=1:=canon_val 1
  have hz2:valN s2 N2 (dgi z2.natAbs)=z2:=by rw[HE.o.2.2,HE.o.1.2,canon_val]
  have HVV:=qh (And.intro (And.intro hq1 hr1) (And.intro ho1 hz2));clear hQ hR hq1 hr1 ho1 hz2
  cases hs2:s2 with
  | true =>
   have hyz:z2<0:=by
    have h:=HE.o.2.2;rw[hs2] at h
    first | exact of_decide_eq_true h.symm | exact of_decide_eq_false h.symm
   subst hs2
   have eQ:valN sq Lq (dgi (z1.natAbs/z2.natAbs))+valN false (lenB 1) (dgi 1)=Q:=by
    rw[HVV.o.1.1,HVV.o.2.1,HQR.o.1,DS.o.1]
    first | rw[if_pos hyz] | rw[if_neg hyz]
    try omega
   have eR:valN true Lr (dgi (z1.natAbs%z2.natAbs))-valN true N2 (dgi z2.natAbs)=R:=by
    rw[HVV.o.1.2,HVV.o.2.2,HQR.o.2,DS.o.2];omega
   have hl1:Lq<=10000000:=by have:=lenB_mono (Nat.div_le_self z1.natAbs z2.natAbs);rw[<- HSQ.o.2.1,<- HE.o.1.1] at this;omega
   have hl2:Lr<=10000000:=by have:=lenB_mono (Nat.le_of_lt (Nat.mod_lt z1.natAbs (show 0<z2.natAbs by have:=HZ.o;omega)));rw[<- HSQ.o.2.2,<- HE.o.1.2] at this;omega
   have hl3:lenB 1<=1:=lenB_le (by decide)
   have ho1:Rd V o1 Lq (dgi (z1.natAbs/z2.natAbs)):=by rw[HSQ.o.2.1];exact HQ.o.numr.rd
   have ho2:Rd V o2 Lr (dgi (z1.natAbs%z2.natAbs)):=by rw[HSQ.o.2.2];exact HRM.o.numr.rd
   have hd1:Lq<=d1:=by rw[HSQ.o.2.1];exact HQ.o.numr.le
   have hd2:Lr<=d2:=by rw[HSQ.o.2.2];exact HRM.o.numr.le
   have hcy:=HOY.o.le;obtain⟨U,hU⟩:∃ U,U=w7.alloc (.cells #[.bool false,.slice ay (lenB 1) cy] 30):=⟨_,rfl⟩
   have hbU:Below V.heap.size V U:=by rw[hU];exact HB7.o.alloc HB7.o.size _
   have HX1:=qh (show Bx U w7.heap.size 30 (.bool false) (.slice ay (lenB 1) cy) by rw[hU];exact Bx.new w7 _ _ _)
   have hoU:Own 128 U V.heap.size ay (lenB 1) cy (dgi 1):=by rw[hU];exact HOY.o.allocd _
   have HUD:=qh hU;have AD1:=qh (fun (w':World) (hb:Below U.heap.size U w')=>radd_any sq o1 Lq d1 (dgi (z1.natAbs/z2.natAbs)) false ay (lenB 1) cy (dgi 1) w' ((ho1.below hbU).below hb) (by omega) hd1 (hoU.rd.below hb) (by omega) hcy);have AD2:=qh (fun (w':World) (hb:Below U.heap.size U w')=>rsub_any true o2 Lr d2 (dgi (z1.natAbs%z2.natAbs)) true a2 N2 c2 (dgi z2.natAbs) w' ((ho2.below hbU).below hb) (by omega) hd2 (HR.o.2.below ((HGV.o.trans (hbU.mono HGV.o.size)).trans (hb.mono (zm HGV.o.size hbU.size)))) (by omega) hc2);rw[eQ] at AD1;rw[eR] at AD2;have HS:=qh (fun (w':World) (hb:Below U.heap.size U w')=>And.intro (And.intro ((HQB.o.bl hbU).below hb (HQB.o.bl hbU).lt) ((HRB.o.bl hbU).below hb (HRB.o.bl hbU).lt)) (And.intro (HX1.o.bl hb) ((HK.o.2.1.below hbU HK.o.2.1.lt).below hb (HK.o.2.1.below hbU HK.o.2.1.lt).lt)));have HS2:=qh (fun (w':World) (hb:Below U.heap.size U w')=>And.intro ((HK.o.2.2.1.below hbU HK.o.2.2.1.lt).below hb (HK.o.2.2.1.below hbU HK.o.2.2.1.lt).lt) ((HK.o.2.2.2.below hbU HK.o.2.2.2.lt).below hb (HK.o.2.2.2.below hbU HK.o.2.2.2.lt).lt));have HBU:=qh hbU;clear eQ eR hl1 hl2 hl3 ho1 ho2 hd1 hd2 hcy hU hbU hoU hyz
   go_upto_region 12 with (fail)
   rw[show w7.alloc (.cells #[.bool false,.slice ay (lenB 1) cy] 30)=U from HUD.o.symm];clear HUD b20 b21 b22 b23
   refine wp_region_fresh 5 (spOf [(2,Sp.made (fun x:Option Addr × Nat=>numV (decide (Q<0)) x.1 (lenB Q.natAbs) x.2) (fun x w'=>Own 128 w' U.heap.size x.1 (lenB Q.natAbs) x.2 (dgi Q.natAbs)))]) (fun w'=>Below U.heap.size U w') (by kernel_rfl) (by kernel_rfl)
    (spOf_cons (Sp.made_keeps fun x w w' h hb=>h.below hb) spOf_nil) (fun _ _ h hb=>h.trans (hb.mono h.size)) (zk.drew) ?_
   simp only[zx,zy,zv,zw]
   iterate 2
    (refine wpF_reads rfl rfl ?_ (fun w' hw'=>?_) ?_;rotate_left;· (have hb':=Has.world hw';(obtain⟨x0,x1,x2,x3⟩:=(HS.o _ hb').1.1.all;obtain⟨x0,x1,x2,x3⟩:=(HS.o _ hb').2.1.all);clear hw';go_simp;try rfl))
    conv=>arg 9;simp only[Act.put,zq0,zq1,zq2]
   (refine wpF_spec rfl rfl (fun w' hw'=>?_) ?_;· (have hb':=Has.world hw';go_simp;((refine(AD1.o w' hb').mono ?_;rintro e w'' ⟨a,c,rfl,ho,hb⟩;exact⟨_,rfl,⟨⟨a,c,rfl⟩,⟨a,c,rfl,ho.mono hb'.size⟩⟩,hb⟩))))
   rintro _ ⟨x,rfl⟩
   conv=>arg 9;simp only[Act.put,zq0,zq1,zq2]
   iterate 2
    (refine wpF_reads rfl rfl ?_ (fun w' hw'=>?_) ?_;rotate_left;· (have hb':=Has.world hw';(obtain⟨x0,x1,x2,x3⟩:=(HS.o _ hb').1.2.all;obtain⟨x0,x1,x2,x3⟩:=(HS.o _ hb').2.2.all);clear hw';go_simp;try rfl))
    conv=>arg 9;simp only[Act.put,zq0,zq1,zq2]
   refine wpF_nil (fun w8 hb8 hF=>?_);have HXQ:=qh (own_numc (T:=128) (b:=U.heap.size) (s:=decide (Q<0)) (L:=lenB Q.natAbs) (o:=dgi Q.natAbs) (x:=x) (hF 2));have A2:=qh (AD2.o w8 hb8);have HB8:=qh hb8;clear hF hb8 AD1 AD2;go_wp2_with fail
   refine A2.o.mono ?_;rintro e w9 ⟨y9,c9,rfl,hoy,hb9⟩;have HB9:=qh (HB8.o.trans (hb9.mono HB8.o.size));have HXQ9:=qh (HXQ.o.below hb9);have HOY:=qh hoy;have M:=HS2.o _ HB9.o;have HM:=qh M;clear hoy hb9 A2;obtain⟨b30,b31,b32,b33⟩:=M.1.all;obtain⟨b40,b41,b42,b43⟩:=M.2.all;clear M;go_wp2_with fail
   have s1':=HB8.o.size;have s2':=HBU.o.size;have s3':=GB.o.size;have s4':=HWS.o;have k3:=((HM.o.1.set (.bool (decide (Q<0))) (.slice x.1 (lenB Q.natAbs) x.2)).other (a:=⟨w.heap.size+1+1+1,0,none⟩) (by dsimp only;omega) (.bool (decide (R<0)))).other (a:=⟨w.heap.size+1+1+1,1,none⟩) (by dsimp only;omega) (.slice y9 (lenB R.natAbs) c9);have k4:=((HM.o.2.other (a:=⟨w.heap.size+1+1,0,none⟩) (by dsimp only;omega) (.bool (decide (Q<0)))).other (a:=⟨w.heap.size+1+1,1,none⟩) (by dsimp only;omega) (.slice x.1 (lenB Q.natAbs) x.2)).set (.bool (decide (R<0))) (.slice y9 (lenB R.natAbs) c9);refine bodyPost_ret (results_cct rfl _ _ _ _ _ _ _ _ _ _ _ rfl k3 rfl k4 Tryz.underlying30 rfl (by kernel_rfl) (by kernel_rfl)) rfl ?_;unfold DivF;rw[<- HQR.o.1,<- HQR.o.2];refine⟨x.1,x.2,y9,c9,rfl,?_,?_,?_⟩
   ·exact((((HXQ9.o.oz).oz).oz).oz).mono (by omega)
   ·exact((((HOY.o.oz).oz).oz).oz).mono (by omega)
   ·have h:=(HGV.o.trans (HBU.o.mono HGV.o.size)).trans (HB9.o.mono (zm HGV.o.size HBU.o.size))
    exact(((h.sc).sc).sc).sc
  | false =>
   have hyz:¬z2<0:=by
    have h:=HE.o.2.2;rw[hs2] at h
    first | exact of_decide_eq_true h.symm | exact of_decide_eq_false h.symm
   subst hs2
   have eQ:valN sq Lq (dgi (z1.natAbs/z2.natAbs))-valN false (lenB 1) (dgi 1)=Q:=by
    rw[HVV.o.1.1,HVV.o.2.1,HQR.o.1,DS.o.1]
    first | rw[if_pos hyz] | rw[if_neg hyz]
    try omega
   have eR:valN true Lr (dgi (z1.natAbs%z2.natAbs))+valN false N2 (dgi z2.natAbs)=R:=by
    rw[HVV.o.1.2,HVV.o.2.2,HQR.o.2,DS.o.2];omega
   have hl1:Lq<=10000000:=by have:=lenB_mono (Nat.div_le_self z1.natAbs z2.natAbs);rw[<- HSQ.o.2.1,<- HE.o.1.1] at this;omega
   have hl2:Lr<=10000000:=by have:=lenB_mono (Nat.le_of_lt (Nat.mod_lt z1.natAbs (show 0<z2.natAbs by have:=HZ.o;omega)));rw[<- HSQ.o.2.2,<- HE.o.1.2] at this;omega
   have hl3:lenB 1<=1:=lenB_le (by decide)
   have ho1:Rd V o1 Lq (dgi (z1.natAbs/z2.natAbs)):=by rw[HSQ.o.2.1];exact HQ.o.numr.rd
   have ho2:Rd V o2 Lr (dgi (z1.natAbs%z2.natAbs)):=by rw[HSQ.o.2.2];exact HRM.o.numr.rd
   have hd1:Lq<=d1:=by rw[HSQ.o.2.1];exact HQ.o.numr.le
   have hd2:Lr<=d2:=by rw[HSQ.o.2.2];exact HRM.o.numr.le
   have hcy:=HOY.o.le;obtain⟨U,hU⟩:∃ U,U=w7.alloc (.cells #[.bool false,.slice ay (lenB 1) cy] 30):=⟨_,rfl⟩
   have hbU:Below V.heap.size V U:=by rw[hU];exact HB7.o.alloc HB7.o.size _
   have HX1:=qh (show Bx U w7.heap.size 30 (.bool false) (.slice ay (lenB 1) cy) by rw[hU];exact Bx.new w7 _ _ _)
   have hoU:Own 128 U V.heap.size ay (lenB 1) cy (dgi 1):=by rw[hU];exact HOY.o.allocd _
   have HUD:=qh hU;have AD1:=qh (fun (w':World) (hb:Below U.heap.size U w')=>rsub_any sq o1 Lq d1 (dgi (z1.natAbs/z2.natAbs)) false ay (lenB 1) cy (dgi 1) w' ((ho1.below hbU).below hb) (by omega) hd1 (hoU.rd.below hb) (by omega) hcy);have AD2:=qh (fun (w':World) (hb:Below U.heap.size U w')=>radd_any true o2 Lr d2 (dgi (z1.natAbs%z2.natAbs)) false a2 N2 c2 (dgi z2.natAbs) w' ((ho2.below hbU).below hb) (by omega) hd2 (HR.o.2.below ((HGV.o.trans (hbU.mono HGV.o.size)).trans (hb.mono (zm HGV.o.size hbU.size)))) (by omega) hc2);rw[eQ] at AD1;rw[eR] at AD2;have HS:=qh (fun (w':World) (hb:Below U.heap.size U w')=>And.intro (And.intro ((HQB.o.bl hbU).below hb (HQB.o.bl hbU).lt) ((HRB.o.bl hbU).below hb (HRB.o.bl hbU).lt)) (And.intro (HX1.o.bl hb) ((HK.o.2.1.below hbU HK.o.2.1.lt).below hb (HK.o.2.1.below hbU HK.o.2.1.lt).lt)));have HS2:=qh (fun (w':World) (hb:Below U.heap.size U w')=>And.intro ((HK.o.2.2.1.below hbU HK.o.2.2.1.lt).below hb (HK.o.2.2.1.below hbU HK.o.2.2.1.lt).lt) ((HK.o.2.2.2.below hbU HK.o.2.2.2.lt).below hb (HK.o.2.2.2.below hbU HK.o.2.2.2.lt).lt));have HBU:=qh hbU;clear eQ eR hl1 hl2 hl3 ho1 ho2 hd1 hd2 hcy hU hbU hoU hyz
   go_upto_region 13 with (fail)
   rw[show w7.alloc (.cells #[.bool false,.slice ay (lenB 1) cy] 30)=U from HUD.o.symm];clear HUD b20 b21 b22 b23
   refine wp_region_fresh 5 (spOf [(2,Sp.made (fun x:Option Addr × Nat=>numV (decide (Q<0)) x.1 (lenB Q.natAbs) x.2) (fun x w'=>Own 128 w' U.heap.size x.1 (lenB Q.natAbs) x.2 (dgi Q.natAbs)))]) (fun w'=>Below U.heap.size U w') (by kernel_rfl) (by kernel_rfl)
    (spOf_cons (Sp.made_keeps fun x w w' h hb=>h.below hb) spOf_nil) (fun _ _ h hb=>h.trans (hb.mono h.size)) (zk.drew) ?_
   simp only[zx,zy,zv,zw]
   iterate 2
    (refine wpF_reads rfl rfl ?_ (fun w' hw'=>?_) ?_;rotate_left;· (have hb':=Has.world hw';(obtain⟨x0,x1,x2,x3⟩:=(HS.o _ hb').1.1.all;obtain⟨x0,x1,x2,x3⟩:=(HS.o _ hb').2.1.all);clear hw';go_simp;try rfl))
    conv=>arg 9;simp only[Act.put,zq0,zq1,zq2]
   (refine wpF_spec rfl rfl (fun w' hw'=>?_) ?_;· (have hb':=Has.world hw';go_simp;((refine(AD1.o w' hb').mono ?_;rintro e w'' ⟨a,c,rfl,ho,hb⟩;exact⟨_,rfl,⟨⟨a,c,rfl⟩,⟨a,c,rfl,ho.mono hb'.size⟩⟩,hb⟩))))
   rintro _ ⟨x,rfl⟩
   conv=>arg 9;simp only[Act.put,zq0,zq1,zq2]
   iterate 2
    (refine wpF_reads rfl rfl ?_ (fun w' hw'=>?_) ?_;rotate_left;· (have hb':=Has.world hw';(obtain⟨x0,x1,x2,x3⟩:=(HS.o _ hb').1.2.all;obtain⟨x0,x1,x2,x3⟩:=(HS.o _ hb').2.2.all);clear hw';go_simp;try rfl))
    conv=>arg 9;simp only[Act.put,zq0,zq1,zq2]
   refine wpF_nil (fun w8 hb8 hF=>?_);have HXQ:=qh (own_numc (T:=128) (b:=U.heap.size) (s:=decide (Q<0)) (L:=lenB Q.natAbs) (o:=dgi Q.natAbs) (x:=x) (hF 2));have A2:=qh (AD2.o w8 hb8);have HB8:=qh hb8;clear hF hb8 AD1 AD2;go_wp2_with fail
   refine A2.o.mono ?_;rintro e w9 ⟨y9,c9,rfl,hoy,hb9⟩;have HB9:=qh (HB8.o.trans (hb9.mono HB8.o.size));have HXQ9:=qh (HXQ.o.below hb9);have HOY:=qh hoy;have M:=HS2.o _ HB9.o;have HM:=qh M;clear hoy hb9 A2;obtain⟨b30,b31,b32,b33⟩:=M.1.all;obtain⟨b40,b41,b42,b43⟩:=M.2.all;clear M;go_wp2_with fail
   have s1':=HB8.o.size;have s2':=HBU.o.size;have s3':=GB.o.size;have s4':=HWS.o;have k3:=((HM.o.1.set (.bool (decide (Q<0))) (.slice x.1 (lenB Q.natAbs) x.2)).other (a:=⟨w.heap.size+1+1+1,0,none⟩) (by dsimp only;omega) (.bool (decide (R<0)))).other (a:=⟨w.heap.size+1+1+1,1,none⟩) (by dsimp only;omega) (.slice y9 (lenB R.natAbs) c9);have k4:=((HM.o.2.other (a:=⟨w.heap.size+1+1,0,none⟩) (by dsimp only;omega) (.bool (decide (Q<0)))).other (a:=⟨w.heap.size+1+1,1,none⟩) (by dsimp only;omega) (.slice x.1 (lenB Q.natAbs) x.2)).set (.bool (decide (R<0))) (.slice y9 (lenB R.natAbs) c9);refine bodyPost_ret (results_cct rfl _ _ _ _ _ _ _ _ _ _ _ rfl k3 rfl k4 Tryz.underlying30 rfl (by kernel_rfl) (by kernel_rfl)) rfl ?_;unfold DivF;rw[<- HQR.o.1,<- HQR.o.2];refine⟨x.1,x.2,y9,c9,rfl,?_,?_,?_⟩
   ·exact((((HXQ9.o.oz).oz).oz).oz).mono (by omega)
   ·exact((((HOY.o.oz).oz).oz).oz).mono (by omega)
   ·have h:=(HGV.o.trans (HBU.o.mono HGV.o.size)).trans (HB9.o.mono (zm HGV.o.size HBU.o.size));exact(((h.sc).sc).sc).sc
 ·have esr:sr=false:=HSQ.o.1.2.trans (zo hng);have DP:=qh (div_plain HZ.o hng);subst esr;clear hng
  go_upto_region 9 with (fail)
  go_region;go_wp2_with fail
  have hws:=HWS.o;have hw2:=HW2.o;have hbw:=HBW.o
  have e1:(z1/z2).natAbs=z1.natAbs/z2.natAbs:=by rw[DP.o.1,q0_abs]
  have e2:(z1%z2).natAbs=z1.natAbs%z2.natAbs:=by rw[DP.o.2,r0_abs]
  have k3:=((HK.o.2.2.1.set (.bool sq) (.slice o1 Lq d1)).other (a:=⟨w.heap.size+1+1+1,0,none⟩) (by dsimp only;omega) (.bool false)).other (a:=⟨w.heap.size+1+1+1,1,none⟩) (by dsimp only;omega) (.slice o2 Lr d2);have k4:=((HK.o.2.2.2.other (a:=⟨w.heap.size+1+1,0,none⟩) (by dsimp only;omega) (.bool sq)).other (a:=⟨w.heap.size+1+1,1,none⟩) (by dsimp only;omega) (.slice o1 Lq d1)).set (.bool false) (.slice o2 Lr d2);refine bodyPost_ret (results_cct rfl _ _ _ _ _ _ _ _ _ _ _ rfl k3 rfl k4 Tryz.underlying30 rfl (by kernel_rfl) (by kernel_rfl)) rfl ⟨o1,d1,o2,d2,?_,?_,?_,?_⟩
  ·rw[e1,e2,<- HSQ.o.2.1,<- HSQ.o.2.2,DP.o.1,DP.o.2,<- HSQ.o.1.1,<- HSQ.o.1.2];rfl
  ·rw[e1];exact((((((HQ.o.numr.oz).oz).oz).oz)).below zk.drew).mono (by omega)
  ·rw[e2];exact((((((HRM.o.numr.oz).oz).oz).oz)).below zk.drew).mono (by omega)
  ·exact((((HGV.o.sc).sc).sc).sc).drew
end Limb
end Go.Proofs.YthacfgmdihcffaaGreatDoor
