/-
  The document's answer for fracs: Div; both Divs, any two fractions; how great a quotient's numbers are.
-/
import Derived.Test.YtgkkbkoiaccmfaaGreatDoorPzNK
set_option linter.unusedSimpArgs false
set_option linter.unusedVariables false
set_option maxHeartbeats 16000000
set_option maxRecDepth 100000
namespace Go.Proofs.YtgkkbkoiaccmfaaGreatDoor
namespace Limb
open Go.RowKit Go.Sort Go.Fresh
theorem one_iff (s:Bool) (n:Nat) (o:Nat->Int) (h:okN s n o) (h0:∀ i,i<n->0<=o i/\o i<=4294967295):Jo s n o=1↔s=false/\n=1/\o 0=1:=by
 obtain⟨f1,f2,f3⟩:=Qg s n o h h0;constructor
 ·intro e;rw[e] at f1 f2 f3
  have hl:Ja (Int.natAbs 1)=1:=by rw[show Int.natAbs 1=1 from rfl,XD (by decide),show 1/1000000000=0 from rfl,Jy]
  have hn:n=1:=by omega
  subst hn;refine⟨by rw[<- f1];rfl,rfl,?_⟩;rw[f3 0 (by omega)];show((dg 1 0:Nat):Int)=1;rw[ZM];rfl
 ·rintro⟨rfl,rfl,e⟩;unfold Jo;rw[if_pos h,if_neg (by simp)];show(0:Int)+o 0*((pw 0:Nat):Int)=1;rw[e,J7];rfl
def Kt (w:World) (p q:Int) (e:Ending) (w':World):Prop :=
 ∃ a1 c1 a2 c2,e=.returned (JU (decide (p<0)) a1 (Ja p.natAbs) c1 (decide (q<0)) a2 (Ja q.natAbs) c2)/\Own 160 w' w.heap.size a1 (Ja p.natAbs) c1 (dgi p.natAbs) /\
  Own 160 w' w.heap.size a2 (Ja q.natAbs) c2 (dgi q.natAbs)/\Below w.heap.size w w'
open Classical in
theorem Zd (s1:Bool) (a1:Option Addr) (n1 c1:Nat) (o1:Nat->Int) (w:World) (h1:Rd w a1 n1 o1) (hn1:n1<=100000000) (hc1:n1<=c1) (hk:okN s1 n1 o1) :
  Calls Tryz.prog 210 #[Jw s1 a1 n1 c1] w fun e w'=>e=.returned (.bool (decide (Jo s1 n1 o1=1)))/\Below w.heap.size w w':=by
 have RES:=qh (one_iff s1 n1 o1 hk h1.rng);have HB1:=qh (Bxs.new (w) 26 [.bool s1,.slice a1 n1 c1]);obtain⟨W,hW⟩:∃ W,W=w.alloc (.cells #[.bool s1,.slice a1 n1 c1] 26):=⟨_,rfl⟩;have KG:=qh (show Below w.heap.size w W by rw[hW];exact zk.alloc zj _);have HWS:=qh (show w.heap.size+1<=W.heap.size by rw[hW];simp only[World.size_alloc];omega);have HB1:=qh (show Bxs W (w.heap.size) 26 [.bool s1,.slice a1 n1 c1] by have h:=HB1.o;rw[hW];exact h);have HW:=qh hW;clear hW;have HR:=qh (h1.below KG.o);clear h1 hk
 cases s1 with
 | true =>
  rw[zo (fun h=>by cases (RES.o.1 h).1)];clear RES;go_enter Tryz.func210,Tryz.ntmps210
  go_upto_region 1 with (fail)
  rw[show w.alloc (.cells #[.bool true,.slice a1 n1 c1] 26)=W from HW.o.symm];clear HW;have b1c0:=HB1.o.ce 0;have b1c1:=HB1.o.ce 1;have b1f:=HB1.o.fz;have b1l:=HB1.o.lt;go_wp2_with fail
  clear b1c0 b1c1 b1f b1l;go_ret
  exact⟨rfl,KG.o⟩
 | false =>
  by_cases hn:n1=1
  ·subst hn;obtain⟨b,off,rfl,hc⟩:=HR.o.cells (by omega);have hc:=hc 0 (by omega);rw[show decide (Jo false 1 o1=1)=decide (o1 0=1) from decide_eq_decide.2 ⟨fun h=>(RES.o.1 h).2.2,fun h=>RES.o.2 ⟨rfl,rfl,h⟩⟩];clear RES;change _=some (Value.int .u32 (o1 0)) at hc;obtain⟨t,ht⟩:∃ t,t=o1 0:=⟨_,rfl⟩;rw[<- ht] at hc ⊢;clear ht;simp only[Nat.add_zero] at hc;go_enter Tryz.func210,Tryz.ntmps210
   go_upto_region 1 with (fail)
   rw[show w.alloc (.cells #[.bool false,.slice (some ⟨b,off,none⟩) 1 c1] 26)=W from HW.o.symm];clear HW;have b1c0:=HB1.o.ce 0;have b1c1:=HB1.o.ce 1;have b1f:=HB1.o.fz;have b1l:=HB1.o.lt;go_wp2_with fail
   clear b1c0 b1c1 b1f b1l;go_ret;exact⟨by first | rfl | (congr 1;simp),KG.o⟩
  ·rw[zo (fun h=>hn (RES.o.1 h).2.1)];clear RES
   have hn':¬(n1:Int)=1:=by omega
   clear hn;go_enter Tryz.func210,Tryz.ntmps210
   go_upto_region 1 with (fail)
   rw[show w.alloc (.cells #[.bool false,.slice a1 n1 c1] 26)=W from HW.o.symm];clear HW;have b1c0:=HB1.o.ce 0;have b1c1:=HB1.o.ce 1;have b1f:=HB1.o.fz;have b1l:=HB1.o.lt;go_wp2_with fail
   clear b1c0 b1c1 b1f b1l;go_ret;exact⟨rfl,KG.o⟩
open Classical in
theorem QR (s1:Bool) (a1:Option Addr) (n1 c1:Nat) (o1:Nat->Int) (s2:Bool) (a2:Option Addr) (n2 c2:Nat) (o2:Nat->Int) (w:World)
  (h1:Rd w a1 n1 o1) (hn1:n1<=5000000) (hc1:n1<=c1) (h2:Rd w a2 n2 o2) (hn2:n2<=5000000) (hc2:n2<=c2) :
  Calls Tryz.prog 128 #[JU s1 a1 n1 c1 s2 a2 n2 c2] w fun e w'=>e=.returned (.bool (decide (okF s1 n1 o1 s2 n2 o2)))/\Below w.heap.size w w':=by
 have HB:=qh (Bxs.new w 28 [.bool s1,.slice a1 n1 c1,.bool s2,.slice a2 n2 c2]);obtain⟨W,hW⟩:∃ W,W=w.alloc (.cells #[.bool s1,.slice a1 n1 c1,.bool s2,.slice a2 n2 c2] 28):=⟨_,rfl⟩;have HBW:=qh (show Below w.heap.size w W by rw[hW];exact zk.alloc zj _);rw[show w.alloc (.cells (List.toArray [.bool s1,.slice a1 n1 c1,.bool s2,.slice a2 n2 c2]) 28)=W from hW.symm] at HB;have HW:=qh hW;have GB:=qh (Below.refl W.heap.size W);have CK1:=qh (fun (w':World) (hb:Below W.heap.size W w')=>Xc s1 a1 n1 c1 o1 w' (h1.below (HBW.o.trans (hb.mono HBW.o.size))) (by omega));have CK2:=qh (fun (w':World) (hb:Below W.heap.size W w')=>Xc s2 a2 n2 c2 o2 w' (h2.below (HBW.o.trans (hb.mono HBW.o.size))) (by omega));have SG:=qh (fun (w':World) (hb:Below W.heap.size W w')=>ZJ s2 a2 n2 c2 o2 w' (h2.below (HBW.o.trans (hb.mono HBW.o.size))) (by omega) hc2);have GC:=qh (fun (w':World) (hb:Below W.heap.size W w')=>Vz s1 a1 n1 c1 o1 s2 a2 n2 c2 o2 w' (h1.below (HBW.o.trans (hb.mono HBW.o.size))) (by omega) hc1 (h2.below (HBW.o.trans (hb.mono HBW.o.size))) (by omega) hc2)
 have HGL:=qh (show Ja (Int.gcd (Jo s1 n1 o1) (Jo s2 n2 o2))<=10000000 from by
  obtain⟨_,_,_,l1,_⟩:=Q9 s1 a1 n1 c1 o1 w h1 (by omega) hc1;obtain⟨_,_,_,l2,_⟩:=Q9 s2 a2 n2 c2 o2 w h2 (by omega) hc2;have:=KC (Jo s1 n1 o1) (Jo s2 n2 o2)
  omega)
 have HRD:=qh (fun (w':World) (hb:Below W.heap.size W w')=>h2.below (HBW.o.trans (hb.mono HBW.o.size)));clear h1 h2 hW;by_cases k1:okN s1 n1 o1
 ·rw[decide_eq_true k1] at CK1;by_cases k2:okN s2 n2 o2
  ·rw[decide_eq_true k2] at CK2;obtain⟨cs,hcs⟩:∃ cs,cs=Js (Jo s2 n2 o2) 0:=⟨_,rfl⟩;rw[<- hcs] at SG;by_cases k3:0<Jo s2 n2 o2
   ·have hc3:decide (0<cs)=true:=by rw[hcs,JO k3];rfl
    obtain⟨G,hG⟩:∃ G:Int,G=((Int.gcd (Jo s1 n1 o1) (Jo s2 n2 o2):Nat):Int):=⟨_,rfl⟩;rw[<- hG] at GC;have HGN:=qh (show Ja G.natAbs<=10000000 by rw[hG,Int.natAbs_natCast];exact HGL.o);have RES:=qh (jey s1 n1 o1 s2 n2 o2 k1 k2 k3);rw[<- hG] at RES;have RO:=qh (fun (w':World) (hb:Below W.heap.size W w')=>Zd s2 a2 n2 c2 o2 w' (HRD.o w' hb) (by omega) hc2 k2)
    have HD:=qh (show(decide (Jo s2 n2 o2=1)=true/\decide (okF s1 n1 o1 s2 n2 o2)=true)\/decide (Jo s2 n2 o2=1)=false by
     by_cases h1:Jo s2 n2 o2=1
     ·exact Or.inl ⟨decide_eq_true h1,by rw[RES.o,hG,h1];exact decide_eq_true (by rw[Int.gcd_one_right];rfl)⟩
     ·exact Or.inr (zo h1))
    obtain⟨dv,hdv⟩:∃ dv,dv=decide (Jo s2 n2 o2=1):=⟨_,rfl⟩;rw[<- hdv] at RO HD;clear hdv hG hcs k1 k2 k3 HRD;go_enter Tryz.func128,Tryz.ntmps128
    go_upto_region 1 with (fail)
    rw[show w.alloc (.cells #[.bool s1,.slice a1 n1 c1,.bool s2,.slice a2 n2 c2] 28)=W from HW.o.symm];obtain⟨x0,x1,x2,x3,x4,x5⟩:=Jf HB.o;go_wp2_with fail
    refine(CK1.o _ GB.o).mono ?_;rintro e w' ⟨rfl,hb⟩;have GB:=qk GB hb;clear hb x0 x1 x2 x3 x4 x5;obtain⟨x0,x1,x2,x3,x4,x5⟩:=Jf (HB.o.below GB.o HB.o.lt);obtain⟨w1,rfl⟩:∃ w1,w1=w':=⟨_,rfl⟩;go_wp2_with fail
    refine(CK2.o _ GB.o).mono ?_;rintro e w' ⟨rfl,hb⟩;have GB:=qk GB hb;clear hb x0 x1 x2 x3 x4 x5;obtain⟨x0,x1,x2,x3,x4,x5⟩:=Jf (HB.o.below GB.o HB.o.lt);obtain⟨w1,rfl⟩:∃ w1,w1=w':=⟨_,rfl⟩;go_wp2_with fail
    refine(SG.o _ GB.o).mono ?_;rintro e w' ⟨rfl,hb⟩;have GB:=qk GB hb;clear hb x0 x1 x2 x3 x4 x5;obtain⟨x0,x1,x2,x3,x4,x5⟩:=Jf (HB.o.below GB.o HB.o.lt);obtain⟨w1,rfl⟩:∃ w1,w1=w':=⟨_,rfl⟩;go_wp2_with fail
    refine(RO.o _ GB.o).mono ?_;rintro e w' ⟨rfl,hb⟩;have GB:=qk GB hb;clear hb RO x0 x1 x2 x3 x4 x5
    rcases HD.o with ⟨h1,hr⟩ | h1
    ·subst h1;have RES:=qh hr;clear hr HD;go_wp2_with fail
     go_ret;exact⟨by rw[RES.o];rfl,HBW.o.trans (GB.o.mono HBW.o.size)⟩
    ·subst h1;clear HD;obtain⟨x0,x1,x2,x3,x4,x5⟩:=Jf (HB.o.below GB.o HB.o.lt);go_wp2_with fail
     refine(GC.o _ GB.o).mono ?_;rintro e w2 ⟨x,xc,rfl,ho,hb⟩;have UN:=qh (Zd (decide (G<0)) x (Ja G.natAbs) xc (dgi G.natAbs) w2 ho.rd (by have:=HGN.o;omega) ho.le (JS G));rw[Jj] at UN;have GB:=qk GB hb;clear hb ho x0 x1 x2 x3 x4 x5;go_wp2_with fail
     refine UN.o.mono ?_;rintro e w3 ⟨rfl,hb⟩;have GB:=qk GB hb;clear hb UN;go_wp2_with fail
     go_ret;exact⟨by rw[RES.o];first | rfl | (congr 1;simp),HBW.o.trans (GB.o.mono HBW.o.size)⟩
   ·have hc3:decide (0<cs)=false:=by
     rw[hcs];refine zo ?_
     rcases Int.lt_trichotomy (Jo s2 n2 o2) 0 with h | h | h
     ·rw[JK h];omega
     ·rw[JX h];omega
     ·exact absurd h k3
    have RES:=qh (show decide (okF s1 n1 o1 s2 n2 o2)=false from zo fun h=>k3 h.2.2.1);clear hcs k1 k2 k3;go_enter Tryz.func128,Tryz.ntmps128
    go_upto_region 1 with (fail)
    rw[show w.alloc (.cells #[.bool s1,.slice a1 n1 c1,.bool s2,.slice a2 n2 c2] 28)=W from HW.o.symm];obtain⟨x0,x1,x2,x3,x4,x5⟩:=Jf HB.o;go_wp2_with fail
    refine(CK1.o _ GB.o).mono ?_;rintro e w' ⟨rfl,hb⟩;have GB:=qk GB hb;clear hb x0 x1 x2 x3 x4 x5;obtain⟨x0,x1,x2,x3,x4,x5⟩:=Jf (HB.o.below GB.o HB.o.lt);obtain⟨w1,rfl⟩:∃ w1,w1=w':=⟨_,rfl⟩;go_wp2_with fail
    refine(CK2.o _ GB.o).mono ?_;rintro e w' ⟨rfl,hb⟩;have GB:=qk GB hb;clear hb x0 x1 x2 x3 x4 x5;obtain⟨x0,x1,x2,x3,x4,x5⟩:=Jf (HB.o.below GB.o HB.o.lt);obtain⟨w1,rfl⟩:∃ w1,w1=w':=⟨_,rfl⟩;go_wp2_with fail
    refine(SG.o _ GB.o).mono ?_;rintro e w' ⟨rfl,hb⟩;have GB:=qk GB hb;clear hb x0 x1 x2 x3 x4 x5;obtain⟨x0,x1,x2,x3,x4,x5⟩:=Jf (HB.o.below GB.o HB.o.lt);obtain⟨w1,rfl⟩:∃ w1,w1=w':=⟨_,rfl⟩;go_wp2_with fail
    go_ret;exact⟨by rw[RES.o];rfl,HBW.o.trans (GB.o.mono HBW.o.size)⟩
  ·rw[zo k2] at CK2;have RES:=qh (show decide (okF s1 n1 o1 s2 n2 o2)=false from zo fun h=>k2 h.2.1);clear k1 k2;go_enter Tryz.func128,Tryz.ntmps128
   go_upto_region 1 with (fail)
   rw[show w.alloc (.cells #[.bool s1,.slice a1 n1 c1,.bool s2,.slice a2 n2 c2] 28)=W from HW.o.symm];obtain⟨x0,x1,x2,x3,x4,x5⟩:=Jf HB.o;go_wp2_with fail
   refine(CK1.o _ GB.o).mono ?_;rintro e w' ⟨rfl,hb⟩;have GB:=qk GB hb;clear hb x0 x1 x2 x3 x4 x5;obtain⟨x0,x1,x2,x3,x4,x5⟩:=Jf (HB.o.below GB.o HB.o.lt);obtain⟨w1,rfl⟩:∃ w1,w1=w':=⟨_,rfl⟩;go_wp2_with fail
   refine(CK2.o _ GB.o).mono ?_;rintro e w' ⟨rfl,hb⟩;have GB:=qk GB hb;clear hb x0 x1 x2 x3 x4 x5;obtain⟨x0,x1,x2,x3,x4,x5⟩:=Jf (HB.o.below GB.o HB.o.lt);obtain⟨w1,rfl⟩:∃ w1,w1=w':=⟨_,rfl⟩;go_wp2_with fail
   go_ret;exact⟨by rw[RES.o];rfl,HBW.o.trans (GB.o.mono HBW.o.size)⟩
 ·rw[zo k1] at CK1;have RES:=qh (show decide (okF s1 n1 o1 s2 n2 o2)=false from zo fun h=>k1 h.1);clear k1;go_enter Tryz.func128,Tryz.ntmps128
  go_upto_region 1 with (fail)
  rw[show w.alloc (.cells #[.bool s1,.slice a1 n1 c1,.bool s2,.slice a2 n2 c2] 28)=W from HW.o.symm];obtain⟨x0,x1,x2,x3,x4,x5⟩:=Jf HB.o;go_wp2_with fail
  refine(CK1.o _ GB.o).mono ?_;rintro e w' ⟨rfl,hb⟩;have GB:=qk GB hb;clear hb x0 x1 x2 x3 x4 x5;obtain⟨x0,x1,x2,x3,x4,x5⟩:=Jf (HB.o.below GB.o HB.o.lt);obtain⟨w1,rfl⟩:∃ w1,w1=w':=⟨_,rfl⟩;go_wp2_with fail
  go_ret;exact⟨by rw[RES.o];rfl,HBW.o.trans (GB.o.mono HBW.o.size)⟩
open Classical in
theorem jca (n:Int) (w:World) (h1:-9223372036854775808<=n) (h2:n<=9223372036854775807) :
  Calls Tryz.prog 76 #[.int .i64 n] w (Kt w n 1):=by
 obtain⟨one,hone⟩:∃ one:Int,one=1:=⟨_,rfl⟩;have OF1:=qh (fun (w':World)=>K9 n w' h1 h2);have OF2:=qh (show ∀ w',Calls Tryz.prog 141 #[.int .i64 1] w' (Yp w' one) from fun w'=>by rw[hone];exact K9 1 w' (by omega) (by omega));rw[<- hone];have HB:=qh (Bxs.new w 28 [.bool false,.slice none 0 0,.bool false,.slice none 0 0]);have HBW:=qh (show Below w.heap.size w (w.alloc (.cells #[.bool false,.slice none 0 0,.bool false,.slice none 0 0] 28)) from zk.alloc zj _);obtain⟨W,hW⟩:∃ W,W=w.alloc (.cells #[.bool false,.slice none 0 0,.bool false,.slice none 0 0] 28):=⟨_,rfl⟩;rw[show w.alloc (.cells (List.toArray [.bool false,.slice none 0 0,.bool false,.slice none 0 0]) 28)=W from hW.symm] at HB;rw[<- hW] at HBW;have HW:=qh hW;clear h1 h2 hone hW;go_enter Tryz.func76,Tryz.ntmps76
 go_upto_region 1 with (fail)
 rw[show w.alloc (.cells #[.bool false,.slice none 0 0,.bool false,.slice none 0 0] 28)=W from HW.o.symm];go_wp2_with fail
 refine(OF1.o _).mono ?_;rintro e w1 ⟨a1,d1,rfl,ho1,hb1⟩;have HO1:=qh ho1;have GB:=qh hb1;clear ho1 hb1;go_wp2_with fail
 refine(OF2.o _).mono ?_;rintro e w2 ⟨a2,d2,rfl,ho2,hb2⟩;have HO1:=qh (HO1.o.below hb2);have HO2:=qh (ho2.mono GB.o.size);have GB:=qk GB hb2;have HB2:=qh (HB.o.below GB.o HB.o.lt);clear ho2 hb2;obtain⟨x0,x1,x2,x3,x4,x5⟩:=Jf HB2.o;go_wp2_with fail
 have hlt:=HB.o.lt;have hG:=HBW.o.trans (GB.o.mono HBW.o.size);refine bodyPost_ret (Je rfl _ _ _ _ _ _ _ rfl ((((HB2.o.put 0 _).put 1 _).put 2 _).put 3 _) Tryz.underlying28 rfl (by kernel_rfl)) rfl ⟨a1,d1,a2,d2,rfl,?_,?_,?_⟩
 ·exact((((HO1.o.oz).oz).oz).oz).mono (by omega)
 ·exact((((HO2.o.oz).oz).oz).oz).mono (by omega)
 ·exact(((hG.sc).sc).sc).sc
open Classical in
theorem rfit_ok (s1:Bool) (a1:Option Addr) (n1 c1:Nat) (o1:Nat->Int) (s2:Bool) (a2:Option Addr) (n2 c2:Nat) (o2:Nat->Int) (w:World) (B0:Nat) (hB0:B0<=w.heap.size)
  (h1:Rd w a1 n1 o1) (hn1:n1<=5000000) (hc1:n1<=c1) (f1:0<n1->∀ p,a1=some p->p.block<B0) (h2:Rd w a2 n2 o2) (hn2:n2<=5000000) (hc2:n2<=c2) (f2:0<n2->∀ p,a2=some p->p.block<B0) (hk:okF s1 n1 o1 s2 n2 o2) :
  Calls Tryz.prog 80 #[JU s1 a1 n1 c1 s2 a2 n2 c2] w (VO w B0 (Jo s1 n1 o1) (Jo s2 n2 o2)):=by
 have CK:=qh (fun (w':World) (hb:Below w.heap.size w w')=>QR s1 a1 n1 c1 o1 s2 a2 n2 c2 o2 w' (h1.below hb) hn1 hc1 (h2.below hb) hn2 hc2);rw[decide_eq_true hk] at CK;obtain⟨t1,t2,t3⟩:=Qg s1 n1 o1 hk.1 h1.rng;obtain⟨u1,u2,u3⟩:=Qg s2 n2 o2 hk.2.1 h2.rng
 generalize Jo s1 n1 o1=z1 at t1 t2 t3 ⊢
 generalize Jo s2 n2 o2=z2 at u1 u2 u3 ⊢
 have HR:=qh (And.intro (And.intro h1 f1) (And.intro h2 f2));have HT:=qh (And.intro (And.intro t1 (And.intro t2 t3)) (And.intro u1 (And.intro u2 u3)));clear hk h1 h2 f1 f2 t1 t2 t3 u1 u2 u3;have HB:=qh ((Bxs.new w 28 [.bool s1,.slice a1 n1 c1,.bool s2,.slice a2 n2 c2]).alloc (.cells #[.bool false,.slice none 0 0,.bool false,.slice none 0 0] 28));have HBR:=qh (Bxs.new (w.alloc (.cells #[.bool s1,.slice a1 n1 c1,.bool s2,.slice a2 n2 c2] 28)) 28 [.bool false,.slice none 0 0,.bool false,.slice none 0 0]);obtain⟨W,hW⟩:∃ W,W=(w.alloc (.cells #[.bool s1,.slice a1 n1 c1,.bool s2,.slice a2 n2 c2] 28)).alloc (.cells #[.bool false,.slice none 0 0,.bool false,.slice none 0 0] 28):=⟨_,rfl⟩;have HBW:=qh (show Below w.heap.size w W by rw[hW];exact(zk.alloc zj _).alloc (by simp) _);rw[show(w.alloc (.cells (List.toArray [.bool s1,.slice a1 n1 c1,.bool s2,.slice a2 n2 c2]) 28)).alloc (.cells #[.bool false,.slice none 0 0,.bool false,.slice none 0 0] 28)=W from hW.symm] at HB;rw[show(w.alloc (.cells #[.bool s1,.slice a1 n1 c1,.bool s2,.slice a2 n2 c2] 28)).alloc (.cells (List.toArray [.bool false,.slice none 0 0,.bool false,.slice none 0 0]) 28)=W from hW.symm,World.size_alloc] at HBR;have HW:=qh hW;clear hW;go_enter Tryz.func80,Tryz.ntmps80
 go_upto_region 1 with (fail)
 rw[show(w.alloc (.cells #[.bool s1,.slice a1 n1 c1,.bool s2,.slice a2 n2 c2] 28)).alloc (.cells #[.bool false,.slice none 0 0,.bool false,.slice none 0 0] 28)=W from HW.o.symm];obtain⟨x0,x1,x2,x3,x4,x5⟩:=Jf HB.o;go_wp2_with fail
 refine(CK.o _ HBW.o).mono ?_;rintro e w1 ⟨rfl,hb1⟩;have GB:=qh hb1;have HB1:=qh (HB.o.bl hb1);have HR1:=qh (HBR.o.bl hb1);clear hb1 CK x0 x1 x2 x3 x4 x5;obtain⟨x0,x1,x2,x3,x4,x5⟩:=Jf HB1.o;obtain⟨y0,y1,y2,y3,y4,y5⟩:=Jf HR1.o;go_wp2_with fail
 have hlt:=HB.o.lt;have hlt2:=HBR.o.lt;have hG:=HBW.o.trans (GB.o.mono HBW.o.size);refine bodyPost_ret (Je rfl _ _ _ _ _ _ _ rfl ((((HR1.o.put 0 _).put 1 _).put 2 _).put 3 _) Tryz.underlying28 rfl (by kernel_rfl)) rfl ⟨a1,c1,a2,c2,?_,?_,?_,?_,?_,?_⟩
 ·rw[HT.o.1.1,HT.o.1.2.1,HT.o.2.1,HT.o.2.2.1];rfl
 ·rw[HT.o.1.2.1];have r:RdS w1 B0 (w.heap.size+2) a1 n1 (dgi z1.natAbs):=⟨(HR.o.1.1.congr HT.o.1.2.2).below hG,fun h0 p hp=>Or.inl (HR.o.1.2 h0 p hp)⟩;exact((((r.sz).sz).sz).sz).up (by omega)
 ·rw[HT.o.1.2.1];exact hc1
 ·rw[HT.o.2.2.1];have r:RdS w1 B0 (w.heap.size+2) a2 n2 (dgi z2.natAbs):=⟨(HR.o.2.1.congr HT.o.2.2.2).below hG,fun h0 p hp=>Or.inl (HR.o.2.2 h0 p hp)⟩;exact((((r.sz).sz).sz).sz).up (by omega)
 ·rw[HT.o.2.2.1];exact hc2
 ·exact(((hG.sc).sc).sc).sc
open Classical in
theorem rfit_not (s1:Bool) (a1:Option Addr) (n1 c1:Nat) (o1:Nat->Int) (s2:Bool) (a2:Option Addr) (n2 c2:Nat) (o2:Nat->Int) (w:World) (B0:Nat)
  (h1:Rd w a1 n1 o1) (hn1:n1<=5000000) (hc1:n1<=c1) (h2:Rd w a2 n2 o2) (hn2:n2<=5000000) (hc2:n2<=c2) (hk:¬okF s1 n1 o1 s2 n2 o2) :
  Calls Tryz.prog 80 #[JU s1 a1 n1 c1 s2 a2 n2 c2] w (VO w B0 0 1):=by
 have CK:=qh (fun (w':World) (hb:Below w.heap.size w w')=>QR s1 a1 n1 c1 o1 s2 a2 n2 c2 o2 w' (h1.below hb) hn1 hc1 (h2.below hb) hn2 hc2);rw[zo hk] at CK;obtain⟨one,hone⟩:∃ one:Int,one=1:=⟨_,rfl⟩;obtain⟨zer,hzer⟩:∃ zer:Int,zer=0:=⟨_,rfl⟩;have OF:=qh (fun (w':World)=>jca 0 w' (by omega) (by omega));rw[<- hone,<- hzer];have OF:=qh (show ∀ w',Calls Tryz.prog 76 #[.int .i64 0] w' (Kt w' zer one) from fun w'=>by rw[hone,hzer];exact OF.o w');clear hk h1 h2 hone hzer;have HB:=qh ((Bxs.new w 28 [.bool s1,.slice a1 n1 c1,.bool s2,.slice a2 n2 c2]).alloc (.cells #[.bool false,.slice none 0 0,.bool false,.slice none 0 0] 28));have HBR:=qh (Bxs.new (w.alloc (.cells #[.bool s1,.slice a1 n1 c1,.bool s2,.slice a2 n2 c2] 28)) 28 [.bool false,.slice none 0 0,.bool false,.slice none 0 0]);obtain⟨W,hW⟩:∃ W,W=(w.alloc (.cells #[.bool s1,.slice a1 n1 c1,.bool s2,.slice a2 n2 c2] 28)).alloc (.cells #[.bool false,.slice none 0 0,.bool false,.slice none 0 0] 28):=⟨_,rfl⟩;have HBW:=qh (show Below w.heap.size w W by rw[hW];exact(zk.alloc zj _).alloc (by simp) _);rw[show(w.alloc (.cells (List.toArray [.bool s1,.slice a1 n1 c1,.bool s2,.slice a2 n2 c2]) 28)).alloc (.cells #[.bool false,.slice none 0 0,.bool false,.slice none 0 0] 28)=W from hW.symm] at HB;rw[show(w.alloc (.cells #[.bool s1,.slice a1 n1 c1,.bool s2,.slice a2 n2 c2] 28)).alloc (.cells (List.toArray [.bool false,.slice none 0 0,.bool false,.slice none 0 0]) 28)=W from hW.symm,World.size_alloc] at HBR
 have HW:=qh hW;clear hW;go_enter Tryz.func80,Tryz.ntmps80
 go_upto_region 1 with (fail)
 rw[show(w.alloc (.cells #[.bool s1,.slice a1 n1 c1,.bool s2,.slice a2 n2 c2] 28)).alloc (.cells #[.bool false,.slice none 0 0,.bool false,.slice none 0 0] 28)=W from HW.o.symm];obtain⟨x0,x1,x2,x3,x4,x5⟩:=Jf HB.o;go_wp2_with fail
 refine(CK.o _ HBW.o).mono ?_;rintro e w1 ⟨rfl,hb1⟩;have GB:=qh hb1;clear hb1 CK x0 x1 x2 x3 x4 x5;go_wp2_with fail
 refine(OF.o w1).mono ?_;rintro e w2 ⟨t1,d1,t2,d2,rfl,ho1,ho2,hb2⟩;have HO:=qh (And.intro ho1 ho2);have hs1:=GB.o.size;have GB:=qk GB hb2;have HR1:=qh (HBR.o.below GB.o HBR.o.lt);have HS1:=qh hs1;clear ho1 ho2 hb2 hs1;obtain⟨y0,y1,y2,y3,y4,y5⟩:=Jf HR1.o;go_wp2_with fail
 have hlt:=HB.o.lt;have hlt2:=HBR.o.lt;have hs1:=HS1.o;have hG:=HBW.o.trans (GB.o.mono HBW.o.size);refine bodyPost_ret (Je rfl _ _ _ _ _ _ _ rfl ((((HR1.o.put 0 _).put 1 _).put 2 _).put 3 _) Tryz.underlying28 rfl (by kernel_rfl)) rfl ⟨t1,d1,t2,d2,rfl,?_,HO.o.1.le,?_,HO.o.2.le,?_⟩
 ·exact(((((HO.o.1.oz).oz).oz).oz).rdS B0 w.heap.size (by omega))
 ·exact(((((HO.o.2.oz).oz).oz).oz).rdS B0 w.heap.size (by omega))
 ·exact(((hG.sc).sc).sc).sc
theorem ZA (s1:Bool) (a1:Option Addr) (n1 c1:Nat) (o1:Nat->Int) (s2:Bool) (a2:Option Addr) (n2 c2:Nat) (o2:Nat->Int) (w:World) (B0:Nat) (hB0:B0<=w.heap.size)
  (h1:Rd w a1 n1 o1) (hn1:n1<=5000000) (hc1:n1<=c1) (f1:0<n1->∀ p,a1=some p->p.block<B0) (h2:Rd w a2 n2 o2) (hn2:n2<=5000000) (hc2:n2<=c2) (f2:0<n2->∀ p,a2=some p->p.block<B0) :
  Calls Tryz.prog 80 #[JU s1 a1 n1 c1 s2 a2 n2 c2] w (VO w B0 (Xh s1 n1 o1 s2 n2 o2).num ((Xh s1 n1 o1 s2 n2 o2).den:Int)):=by
 by_cases hk:okF s1 n1 o1 s2 n2 o2
 ·obtain⟨e1,e2⟩:=Xy hk;rw[e1,e2];exact rfit_ok s1 a1 n1 c1 o1 s2 a2 n2 c2 o2 w B0 hB0 h1 hn1 hc1 f1 h2 hn2 hc2 f2 hk
 ·rw[Kl hk];exact rfit_not s1 a1 n1 c1 o1 s2 a2 n2 c2 o2 w B0 h1 hn1 hc1 h2 hn2 hc2 hk
def Sin (lo hi:Nat) (w V:World):Prop:=∀ b,(b<lo\/hi<=b)->V.heap[b]?=w.heap[b]?
theorem Sin.refl (lo hi:Nat) (w:World):Sin lo hi w w:=fun _ _=>rfl
theorem Sin.set {lo hi:Nat} {w V:World} (h:Sin lo hi w V) {p:Addr} (h1:lo<=p.block) (h2:p.block<hi) (v:Value):Sin lo hi w (V.setCell p v):=fun b hb =>
 (Below.heap_setCell _ _ _ _ (by omega)).trans (h b hb)
theorem Sin.sz {lo hi:Nat} {w V:World} (h:Sin lo hi w V) {p:Addr} {v:Value} (h1:lo<=p.block:=by dsimp only;omega) (h2:p.block<hi:=by dsimp only;omega):Sin lo hi w (V.setCell p v):=h.set h1 h2 v
theorem RdS.sin {w V:World} {lo hi:Nat} {a:Option Addr} {n:Nat} {o:Nat->Int} (h:RdS w lo hi a n o) (hs:Sin lo hi w V):RdS V lo hi a n o:=by
 refine⟨⟨fun hn=>?_,h.rd.rng⟩,h.far⟩;obtain⟨b,off,ha,hc⟩:=h.rd.cells hn;exact⟨b,off,ha,fun i hi=>(World.cell?_of_block (hs b (h.far hn _ ha))).trans (hc i hi)⟩
theorem QJ.sin {w V:World} {lo hi:Nat} {p q:Int} {x:Option Addr × Nat × Option Addr × Nat} (h:QJ w lo hi p q x) (hs:Sin lo hi w V):QJ V lo hi p q x:=⟨h.r1.sin hs,h.c1,h.r2.sin hs,h.c2⟩
theorem low_tl (z1 z2 t l:Int) (hz:z2≠0) (h:(z2<0/\t = -z1/\l = -z2)\/(¬z2<0/\t=z1/\l=z2)) :
  0<l/\((Int.gcd t l:Nat):Int)≠0/\t/((Int.gcd t l:Nat):Int)=(Rat.divInt z1 z2).num/\l/((Int.gcd t l:Nat):Int)=((Rat.divInt z1 z2).den:Int)/\(l=1->(Rat.divInt z1 z2).num=t/\((Rat.divInt z1 z2).den:Int)=l):=by
 have hl:0<l:=by omega
 have e:Rat.divInt t l=Rat.divInt z1 z2:=by
  rcases h with ⟨_,rfl,rfl⟩ | ⟨_,rfl,rfl⟩
  ·exact Rat.neg_divInt_neg _ _
  ·rfl
 have h1:=YV t l (by omega);have h2:=YW t l (by omega);have h3:=jem t l (by omega);rw[if_neg (by omega)] at h1 h2 h3;rw[e] at h1 h2;refine⟨hl,h3,h1,h2,fun h=>?_⟩;rw[<- e];exact Ym hl (by rw[h];exact Int.gcd_one_right _)
open Classical in
theorem Yw (z1 z2:Int) (a1 a2:Option Addr) (c1 c2:Nat) (w:World) (h1:Rd w a1 (Ja z1.natAbs) (dgi z1.natAbs)) (hn1:Ja z1.natAbs<=4000000) (hc1:Ja z1.natAbs<=c1) (h2:Rd w a2 (Ja z2.natAbs) (dgi z2.natAbs)) (hn2:Ja z2.natAbs<=4000000) (hc2:Ja z2.natAbs<=c2) (hz:z2≠0) :
  Calls Tryz.prog 176 #[Jw (decide (z1<0)) a1 (Ja z1.natAbs) c1,Jw (decide (z2<0)) a2 (Ja z2.natAbs) c2] w (Kt w (Rat.divInt z1 z2).num ((Rat.divInt z1 z2).den:Int)):=by
 have hfar:∀ {a:Option Addr} {n:Nat} {o:Nat->Int},Rd w a n o->0<n->∀ p,a=some p->p.block<w.heap.size:=fun h h0 p hp=>by
  obtain⟨b,off,e,hc⟩:=h.cells h0
  rw[e] at hp;cases hp
  exact block_lt_of_cell (hc 0 h0)
 obtain⟨P,hP⟩:∃ P,P=(Rat.divInt z1 z2).num:=⟨_,rfl⟩;obtain⟨Q,hQ⟩:∃ Q:Int,Q=((Rat.divInt z1 z2).den:Int):=⟨_,rfl⟩;rw[<- hP,<- hQ];have HPE:=qh (And.intro hP hQ);clear hP hQ;have HB1:=qh (((Bxs.new (w) 26 [.bool (decide (z1<0)),.slice a1 (Ja z1.natAbs) c1]).alloc (.cells #[.bool (decide (z2<0)),.slice a2 (Ja z2.natAbs) c2] 26)).alloc (.cells #[.bool false,.slice none 0 0,.bool false,.slice none 0 0] 28));have HB2:=qh ((Bxs.new (w.alloc (.cells #[.bool (decide (z1<0)),.slice a1 (Ja z1.natAbs) c1] 26)) 26 [.bool (decide (z2<0)),.slice a2 (Ja z2.natAbs) c2]).alloc (.cells #[.bool false,.slice none 0 0,.bool false,.slice none 0 0] 28));have HB3:=qh (Bxs.new ((w.alloc (.cells #[.bool (decide (z1<0)),.slice a1 (Ja z1.natAbs) c1] 26)).alloc (.cells #[.bool (decide (z2<0)),.slice a2 (Ja z2.natAbs) c2] 26)) 28 [.bool false,.slice none 0 0,.bool false,.slice none 0 0]);obtain⟨W,hW⟩:∃ W,W=((w.alloc (.cells #[.bool (decide (z1<0)),.slice a1 (Ja z1.natAbs) c1] 26)).alloc (.cells #[.bool (decide (z2<0)),.slice a2 (Ja z2.natAbs) c2] 26)).alloc (.cells #[.bool false,.slice none 0 0,.bool false,.slice none 0 0] 28):=⟨_,rfl⟩;have KG:=qh (show Below w.heap.size w W by rw[hW];exact((zk.alloc zj _).alloc (by go_size) _).alloc (by go_size) _);have HWS:=qh (show w.heap.size+3<=W.heap.size by rw[hW];simp only[World.size_alloc];omega);have HB1:=qh (show Bxs W (w.heap.size) 26 [.bool (decide (z1<0)),.slice a1 (Ja z1.natAbs) c1] by have h:=HB1.o;rw[hW];exact h);have HB2:=qh (show Bxs W (w.heap.size+1) 26 [.bool (decide (z2<0)),.slice a2 (Ja z2.natAbs) c2] by have h:=HB2.o;simp only[World.size_alloc] at h;rw[hW];exact h)
 have HB3:=qh (show Bxs W (w.heap.size+1+1) 28 [.bool false,.slice none 0 0,.bool false,.slice none 0 0] by have h:=HB3.o;simp only[World.size_alloc] at h;rw[hW];exact h);have HW:=qh hW;clear hW;have HX1:=qh (show RdS W w.heap.size (w.heap.size+3) a1 (Ja z1.natAbs) (dgi z1.natAbs) from⟨h1.below KG.o,fun h0 p hp=>Or.inl (hfar h1 h0 p hp)⟩);have HX2:=qh (show RdS W w.heap.size (w.heap.size+3) a2 (Ja z2.natAbs) (dgi z2.natAbs) from⟨h2.below KG.o,fun h0 p hp=>Or.inl (hfar h2 h0 p hp)⟩);have HC1:=qh hc1;have HC2:=qh hc2;clear h1 h2 hc1 hc2 hfar;obtain⟨cs,hcs⟩:∃ cs,cs=Js z2 0:=⟨_,rfl⟩;have SG:=qh (ZJ (decide (z2<0)) a2 (Ja z2.natAbs) c2 (dgi z2.natAbs) W HX2.o.rd (by omega) HC2.o);rw[Jj,<- hcs] at SG;by_cases hneg:z2<0
 ·have hc:cs<0:=by rw[hcs,JK hneg];omega
  obtain⟨t,ht⟩:∃ t,t = -z1:=⟨_,rfl⟩;obtain⟨l,hl⟩:∃ l,l = -z2:=⟨_,rfl⟩;have HLOW:=qh (low_tl z1 z2 t l hz (Or.inl ⟨hneg,ht,hl⟩));have HT:=qh (And.intro ht hl);have HN0:=qh (And.intro hn1 hn2);have HN:=qh (show Ja t.natAbs<=4000000/\Ja l.natAbs<=4000000 by rw[ht,hl,Int.natAbs_neg,Int.natAbs_neg];exact HN0.o);clear hcs hneg hz hn1 hn2 ht hl;go_enter Tryz.func176,Tryz.ntmps176
  go_upto_region 1 with (fail)
  rw[show((w.alloc (.cells #[.bool (decide (z1<0)),.slice a1 (Ja z1.natAbs) c1] 26)).alloc (.cells #[.bool (decide (z2<0)),.slice a2 (Ja z2.natAbs) c2] 26)).alloc (.cells #[.bool false,.slice none 0 0,.bool false,.slice none 0 0] 28)=W from HW.o.symm];clear HW;have b2c0:=HB2.o.ce 0;have b2c1:=HB2.o.ce 1;have b2f:=HB2.o.fz;have b2l:=HB2.o.lt;go_wp2_with fail
  with_reducible refine(SG.o).mono ?_
  rintro e w1 ⟨rfl,hb⟩;clear b2c0 b2c1 b2f b2l;have HB1:=qh (HB1.o.bl hb);have HB2:=qh (HB2.o.bl hb);have HB3:=qh (HB3.o.bl hb);have HX1:=qh (HX1.o.below hb);have HX2:=qh (HX2.o.below hb);have HWS:=qh (zm HWS.o hb.size);have KG:=qk KG hb;clear hb;clear SG;have NG:=qh (fun (w':World) (hb:Below w1.heap.size w1 w')=>Ko (decide (z1<0)) a1 (Ja z1.natAbs) c1 (dgi z1.natAbs) w' (HX1.o.rd.below hb) (by have:=HN0.o;omega) HC1.o);rw[Jj,<- HT.o.1] at NG;have b1c0:=HB1.o.ce 0;have b1c1:=HB1.o.ce 1;have b1f:=HB1.o.fz;have b1l:=HB1.o.lt;go_wp2_with fail
  with_reducible refine(NG.o _ zk).mono ?_
  rintro e w2 ⟨x1,d1,rfl,ho,hb⟩;have HX1:=qh (ho.rdS w.heap.size (w.heap.size+3) HWS.o);have HC1:=qh ho.le;clear ho;clear b1c0 b1c1 b1f b1l;have HB1:=qh (HB1.o.bl hb);have HB2:=qh (HB2.o.bl hb);have HB3:=qh (HB3.o.bl hb);have HX2:=qh (HX2.o.below hb);have HWS:=qh (zm HWS.o hb.size);have KG:=qk KG hb;clear hb;clear NG;have b1c0:=HB1.o.ce 0;have b1c1:=HB1.o.ce 1;have b1f:=HB1.o.fz;have b1l:=HB1.o.lt
  go_upto_region 3 with (fail)
  obtain⟨v3,hV⟩:∃ V,V=(w2.setCell ⟨w.heap.size,0,none⟩ (.bool (decide (t<0)))).setCell ⟨w.heap.size,1,none⟩ (.slice x1 (Ja t.natAbs) d1):=⟨_,rfl⟩;have HB1:=qh (show Bxs v3 (w.heap.size) 26 [.bool (decide (t<0)),.slice x1 (Ja t.natAbs) d1] by rw[hV];exact((HB1.o).put 0 _).put 1 _);have HB2:=qh (show Bxs v3 (w.heap.size+1) 26 [.bool (decide (z2<0)),.slice a2 (Ja z2.natAbs) c2] by rw[hV];exact((HB2.o).oz).oz);have HB3:=qh (show Bxs v3 (w.heap.size+1+1) 28 [.bool false,.slice none 0 0,.bool false,.slice none 0 0] by rw[hV];exact((HB3.o).oz).oz)
  have hsin:Sin w.heap.size (w.heap.size+3) w2 v3:=by rw[hV];exact((Sin.refl _ _ _).sz).sz
  have HX2:=qh (HX2.o.sin hsin);have HX1:=qh (HX1.o.sin hsin);clear hsin;have KG:=qh (show Below w.heap.size w v3 by rw[hV];exact((KG.o).sc).sc);have HWS:=qh (show w.heap.size+3<=v3.heap.size by rw[hV];simp only[World.size_setCell];have:=HWS.o;omega);rw[show(w2.setCell ⟨w.heap.size,0,none⟩ (.bool (decide (t<0)))).setCell ⟨w.heap.size,1,none⟩ (.slice x1 (Ja t.natAbs) d1)=v3 from hV.symm];clear hV;clear b1c0 b1c1 b1f b1l;have NG:=qh (fun (w':World) (hb:Below v3.heap.size v3 w')=>Ko (decide (z2<0)) a2 (Ja z2.natAbs) c2 (dgi z2.natAbs) w' (HX2.o.rd.below hb) (by have:=HN0.o;omega) HC2.o);rw[Jj,<- HT.o.2] at NG;have b2c0:=HB2.o.ce 0;have b2c1:=HB2.o.ce 1;have b2f:=HB2.o.fz;have b2l:=HB2.o.lt;go_wp2_with fail
  with_reducible refine(NG.o _ zk).mono ?_
  rintro e w4 ⟨x2,d2,rfl,ho,hb⟩;have HX2:=qh (ho.rdS w.heap.size (w.heap.size+3) HWS.o);have HC2:=qh ho.le;clear ho;clear b2c0 b2c1 b2f b2l;have HB1:=qh (HB1.o.bl hb);have HB2:=qh (HB2.o.bl hb);have HB3:=qh (HB3.o.bl hb);have HX1:=qh (HX1.o.below hb);have HWS:=qh (zm HWS.o hb.size);have KG:=qk KG hb;clear hb;clear NG;have b2c0:=HB2.o.ce 0;have b2c1:=HB2.o.ce 1;have b2f:=HB2.o.fz;have b2l:=HB2.o.lt
  go_upto_region 4 with (fail)
  obtain⟨v5,hV⟩:∃ V,V=(w4.setCell ⟨w.heap.size+1,0,none⟩ (.bool (decide (l<0)))).setCell ⟨w.heap.size+1,1,none⟩ (.slice x2 (Ja l.natAbs) d2):=⟨_,rfl⟩;have HB1:=qh (show Bxs v5 (w.heap.size) 26 [.bool (decide (t<0)),.slice x1 (Ja t.natAbs) d1] by rw[hV];exact((HB1.o).oz).oz);have HB2:=qh (show Bxs v5 (w.heap.size+1) 26 [.bool (decide (l<0)),.slice x2 (Ja l.natAbs) d2] by rw[hV];exact((HB2.o).put 0 _).put 1 _);have HB3:=qh (show Bxs v5 (w.heap.size+1+1) 28 [.bool false,.slice none 0 0,.bool false,.slice none 0 0] by rw[hV];exact((HB3.o).oz).oz)
  have hsin:Sin w.heap.size (w.heap.size+3) w4 v5:=by rw[hV];exact((Sin.refl _ _ _).sz).sz
  have HX1:=qh (HX1.o.sin hsin);have HX2:=qh (HX2.o.sin hsin);clear hsin;have KG:=qh (show Below w.heap.size w v5 by rw[hV];exact((KG.o).sc).sc);have HWS:=qh (show w.heap.size+3<=v5.heap.size by rw[hV];simp only[World.size_setCell];have:=HWS.o;omega);rw[show(w4.setCell ⟨w.heap.size+1,0,none⟩ (.bool (decide (l<0)))).setCell ⟨w.heap.size+1,1,none⟩ (.slice x2 (Ja l.natAbs) d2)=v5 from hV.symm];clear hV;clear b2c0 b2c1 b2f b2l;obtain⟨G,hG⟩:∃ G:Int,G=((Int.gcd t l:Nat):Int):=⟨_,rfl⟩;have HGL:=qh (show Ja G.natAbs<=8000000 by rw[hG,Int.natAbs_natCast];have:=KC t l;have:=HN.o;omega);rw[<- hG,<- HPE.o.1,<- HPE.o.2] at HLOW;have HG:=qh hG;clear hG;by_cases hl1:l=1
  ·have HPQ:=qh (HLOW.o.2.2.2.2 hl1);have RO:=qh (fun (w':World) (hb:Below v5.heap.size v5 w')=>Zd (decide (l<0)) x2 (Ja l.natAbs) d2 (dgi l.natAbs) w' (HX2.o.rd.below hb) (by have:=HN.o;omega) HC2.o (JS l));rw[Jj,decide_eq_true hl1] at RO;clear hl1;have b2c0:=HB2.o.ce 0;have b2c1:=HB2.o.ce 1;have b2f:=HB2.o.fz;have b2l:=HB2.o.lt;go_wp2_with fail
   with_reducible refine(RO.o _ zk).mono ?_
   rintro e w6 ⟨rfl,hb⟩;clear b2c0 b2c1 b2f b2l;have HB1:=qh (HB1.o.bl hb);have HB2:=qh (HB2.o.bl hb);have HB3:=qh (HB3.o.bl hb);have HX1:=qh (HX1.o.below hb);have HX2:=qh (HX2.o.below hb);have HWS:=qh (zm HWS.o hb.size);have KG:=qk KG hb;clear hb;clear RO;have TW1:=qh (fun (w':World) (hb:Below w6.heap.size w6 w')=>Xl (decide (t<0)) x1 (Ja t.natAbs) d1 (dgi t.natAbs) w' (HX1.o.rd.below hb) (by have:=HN.o;omega))
   go_upto_region 5 with (fail)
   have HS:=qh (fun (w':World) (hb:Below w6.heap.size w6 w')=>And.intro (HB1.o.bl hb).bx.all ((HB2.o.bl hb).bx.all))
   refine Jb 3 (JM [(1,Sp.made (fun x:Option Addr × Nat=>Jw (decide (t<0)) x.1 (Ja t.natAbs) x.2) (fun x w'=>Own 160 w' w6.heap.size x.1 (Ja t.natAbs) x.2 (dgi t.natAbs)))]) (fun w'=>Below w6.heap.size w6 w') (by kernel_rfl) (by kernel_rfl)
    (Jd (Sp.Ji fun x w w' h hb=>h.below hb) (Jk)) (fun _ _ h hb=>h.trans (hb.mono h.size)) (zk.drew) ?_
   simp only[zx,zy,zv,zw]
   (refine Jc rfl rfl ?_ (fun w' hw'=>?_) ?_;rotate_left;· (have hb':=Has.world hw';(obtain⟨k0,k1,k2,k3⟩:=(HS.o _ hb').1);clear hw';go_simp;try rfl))
   conv=>arg 9;simp only[Act.put,zq0,zq1,zq2]
   (refine Jg rfl rfl (fun w' hw'=>?_) ?_;· (have hb':=Has.world hw';go_simp;((refine(TW1.o w' hb').mono ?_;rintro e w'' ⟨za,zb,rfl,ho,-,hb⟩;exact⟨_,rfl,⟨⟨za,zb,rfl⟩,⟨za,zb,rfl,ho.mono hb'.size⟩⟩,hb⟩))))
   rintro _ ⟨y1,rfl⟩
   conv=>arg 9;simp only[Act.put,zq0,zq1,zq2]
   (refine Jc rfl rfl ?_ (fun w' hw'=>?_) ?_;rotate_left;· (have hb':=Has.world hw';(obtain⟨k0,k1,k2,k3⟩:=(HS.o _ hb').2);clear hw';go_simp;try rfl))
   conv=>arg 9;simp only[Act.put,zq0,zq1,zq2]
   refine Jn (fun w7 hb hF=>?_);have HO1:=qh (Own.mono (J6 (T:=160) (x:=y1) (b:=w6.heap.size) (s:=decide (t<0)) (L:=Ja t.natAbs) (o:=dgi t.natAbs) (hF 1)) HWS.o);clear hF HS;have HB1:=qh (HB1.o.bl hb);have HB2:=qh (HB2.o.bl hb);have HB3:=qh (HB3.o.bl hb);have HX1:=qh (HX1.o.below hb);have HX2:=qh (HX2.o.below hb);have HWS:=qh (zm HWS.o hb.size);have KG:=qk KG hb;clear hb;clear TW1;have TW2:=qh (fun (w':World) (hb:Below w7.heap.size w7 w')=>Xl (decide (l<0)) x2 (Ja l.natAbs) d2 (dgi l.natAbs) w' (HX2.o.rd.below hb) (by have:=HN.o;omega));have b3c0:=HB3.o.ce 0;have b3c1:=HB3.o.ce 1;have b3c2:=HB3.o.ce 2;have b3c3:=HB3.o.ce 3;have b3f:=HB3.o.fz;have b3l:=HB3.o.lt;go_wp2_with fail
   with_reducible refine(TW2.o _ zk).mono ?_
   rintro e w8 ⟨m2,e2,rfl,ho2,-,hb⟩;have HO2:=qh (ho2.mono HWS.o);clear ho2;clear b3c0 b3c1 b3c2 b3c3 b3f b3l;have HB1:=qh (HB1.o.bl hb);have HB2:=qh (HB2.o.bl hb);have HB3:=qh (HB3.o.bl hb);have HX1:=qh (HX1.o.below hb);have HX2:=qh (HX2.o.below hb);have HO1:=qh (HO1.o.below hb);have HWS:=qh (zm HWS.o hb.size);have KG:=qk KG hb;clear hb;have b3c0:=HB3.o.ce 0;have b3c1:=HB3.o.ce 1;have b3c2:=HB3.o.ce 2;have b3c3:=HB3.o.ce 3;have b3f:=HB3.o.fz;have b3l:=HB3.o.lt;go_wp2_with fail
   have hws:=HWS.o;refine bodyPost_ret (Je rfl _ _ _ _ _ _ _ rfl (((((HB3.o).put 0 _).put 1 _).put 2 _).put 3 _) Tryz.underlying28 rfl (by kernel_rfl)) rfl ?_;rw[HPQ.o.1,HPQ.o.2];refine⟨y1.1,y1.2,m2,e2,rfl,?_,?_,?_⟩
   ·exact(((((HO1.o).oz).oz).oz).oz).mono (by omega)
   ·exact(((((HO2.o).oz).oz).oz).oz).mono (by omega)
   ·exact((((KG.o).sc).sc).sc).sc
  ·have HL1:=qh hl1;have RO:=qh (fun (w':World) (hb:Below v5.heap.size v5 w')=>Zd (decide (l<0)) x2 (Ja l.natAbs) d2 (dgi l.natAbs) w' (HX2.o.rd.below hb) (by have:=HN.o;omega) HC2.o (JS l));rw[Jj,zo hl1] at RO;clear hl1;have b2c0:=HB2.o.ce 0;have b2c1:=HB2.o.ce 1;have b2f:=HB2.o.fz;have b2l:=HB2.o.lt;go_wp2_with fail
   with_reducible refine(RO.o _ zk).mono ?_
   rintro e w9 ⟨rfl,hb⟩;clear b2c0 b2c1 b2f b2l;have HB1:=qh (HB1.o.bl hb);have HB2:=qh (HB2.o.bl hb);have HB3:=qh (HB3.o.bl hb);have HX1:=qh (HX1.o.below hb);have HX2:=qh (HX2.o.below hb);have HWS:=qh (zm HWS.o hb.size);have KG:=qk KG hb;clear hb;clear RO;have GC:=qh (fun (w':World) (hb:Below w9.heap.size w9 w')=>Vz (decide (t<0)) x1 (Ja t.natAbs) d1 (dgi t.natAbs) (decide (l<0)) x2 (Ja l.natAbs) d2 (dgi l.natAbs) w' (HX1.o.rd.below hb) (by have:=HN.o;omega) HC1.o (HX2.o.rd.below hb) (by have:=HN.o;omega) HC2.o);rw[Jj,Jj,<- HG.o] at GC;have b1c0:=HB1.o.ce 0;have b1c1:=HB1.o.ce 1;have b1f:=HB1.o.fz;have b1l:=HB1.o.lt;have b2c0:=HB2.o.ce 0;have b2c1:=HB2.o.ce 1;have b2f:=HB2.o.fz;have b2l:=HB2.o.lt;go_wp2_with fail
   with_reducible refine(GC.o _ zk).mono ?_
   rintro e wg ⟨xg,dg,rfl,ho,hb⟩;clear b1c0 b1c1 b1f b1l b2c0 b2c1 b2f b2l;clear GC
   go_upto_region 7 with (fail)
   have hbV:=hb.alloc hb.size (.cells #[.bool (decide (G<0)),.slice xg (Ja G.natAbs) dg] 26);have HB4:=qh (Bxs.new wg 26 [.bool (decide (G<0)),.slice xg (Ja G.natAbs) dg]);have HO4:=qh ((ho.mono HWS.o).JD (.cells #[.bool (decide (G<0)),.slice xg (Ja G.natAbs) dg] 26));obtain⟨vg,hV⟩:∃ V,V=wg.alloc (.cells #[.bool (decide (G<0)),.slice xg (Ja G.natAbs) dg] 26):=⟨_,rfl⟩;rw[<- hV] at hbV HO4;rw[show wg.alloc (.cells (List.toArray [.bool (decide (G<0)),.slice xg (Ja G.natAbs) dg]) 26)=vg from hV.symm] at HB4;rw[show wg.alloc (.cells #[.bool (decide (G<0)),.slice xg (Ja G.natAbs) dg] 26)=vg from hV.symm];obtain⟨b4,hb4⟩:∃ b,b=wg.heap.size:=⟨_,rfl⟩;rw[<- hb4] at HB4 ⊢;clear hV hb4 ho hb;have HB1:=qh (HB1.o.bl hbV);have HB2:=qh (HB2.o.bl hbV);have HB3:=qh (HB3.o.bl hbV);have HX1:=qh (HX1.o.below hbV);have HX2:=qh (HX2.o.below hbV);have HWS:=qh (zm HWS.o hbV.size);have KG:=qk KG hbV;clear hbV;have DV:=qh (fun (w':World) (hb:Below vg.heap.size vg w')=>Kz t G x1 xg d1 dg w' (HX1.o.rd.below hb) (by have:=HN.o;omega) HC1.o (HO4.o.rd.below hb) (by have:=HGL.o;omega) HO4.o.le HLOW.o.2.1);obtain⟨Qq,hQq⟩:∃ Q,Q=t/G:=⟨_,rfl⟩;obtain⟨Rq,hRq⟩:∃ R,R=t%G:=⟨_,rfl⟩;unfold DivF at DV;rw[<- hQq,<- hRq] at DV;rw[<- hQq] at HLOW;clear hQq hRq;have b1c0:=HB1.o.ce 0;have b1c1:=HB1.o.ce 1;have b1f:=HB1.o.fz;have b1l:=HB1.o.lt;have b4c0:=HB4.o.ce 0;have b4c1:=HB4.o.ce 1
   have b4f:=HB4.o.fz;have b4l:=HB4.o.lt;go_wp2_with fail
   with_reducible refine(DV.o _ zk).mono ?_
   rintro e wq ⟨xq,dq,uq,vq,rfl,ho,-,hb⟩;clear b1c0 b1c1 b1f b1l b4c0 b4c1 b4f b4l;clear DV
   go_upto_region 8 with (fail)
   have hbV:=(hb.alloc hb.size (.cells #[.bool (decide (Qq<0)),.slice xq (Ja Qq.natAbs) dq] 26)).alloc (by have:=hb.size;go_size) (.cells #[.bool (decide (Rq<0)),.slice uq (Ja Rq.natAbs) vq] 26);have HBn:=qh ((Bxs.new wq 26 [.bool (decide (Qq<0)),.slice xq (Ja Qq.natAbs) dq]).alloc (.cells #[.bool (decide (Rq<0)),.slice uq (Ja Rq.natAbs) vq] 26));have HOq:=qh (((ho.mono HWS.o).JD (.cells #[.bool (decide (Qq<0)),.slice xq (Ja Qq.natAbs) dq] 26)).JD (.cells #[.bool (decide (Rq<0)),.slice uq (Ja Rq.natAbs) vq] 26));obtain⟨vq',hV⟩:∃ V,V=(wq.alloc (.cells #[.bool (decide (Qq<0)),.slice xq (Ja Qq.natAbs) dq] 26)).alloc (.cells #[.bool (decide (Rq<0)),.slice uq (Ja Rq.natAbs) vq] 26):=⟨_,rfl⟩;rw[<- hV] at hbV HOq;rw[show(wq.alloc (.cells (List.toArray [.bool (decide (Qq<0)),.slice xq (Ja Qq.natAbs) dq]) 26)).alloc (.cells #[.bool (decide (Rq<0)),.slice uq (Ja Rq.natAbs) vq] 26)=vq' from hV.symm] at HBn;rw[show(wq.alloc (.cells #[.bool (decide (Qq<0)),.slice xq (Ja Qq.natAbs) dq] 26)).alloc (.cells #[.bool (decide (Rq<0)),.slice uq (Ja Rq.natAbs) vq] 26)=vq' from hV.symm];obtain⟨bq,hbn⟩:∃ b,b=wq.heap.size:=⟨_,rfl⟩;rw[<- hbn] at HBn ⊢;clear hV hbn ho hb;have HB1:=qh (HB1.o.bl hbV);have HB2:=qh (HB2.o.bl hbV);have HB3:=qh (HB3.o.bl hbV);have HB4:=qh (HB4.o.bl hbV);have HX1:=qh (HX1.o.below hbV);have HX2:=qh (HX2.o.below hbV);have HO4:=qh (HO4.o.below hbV);have HWS:=qh (zm HWS.o hbV.size)
   have KG:=qk KG hbV;clear hbV;have HB5:=qh HBn.o;clear HBn;have DV:=qh (fun (w':World) (hb:Below vq'.heap.size vq' w')=>Kz l G x2 xg d2 dg w' (HX2.o.rd.below hb) (by have:=HN.o;omega) HC2.o (HO4.o.rd.below hb) (by have:=HGL.o;omega) HO4.o.le HLOW.o.2.1);obtain⟨Qr,hQr⟩:∃ Q,Q=l/G:=⟨_,rfl⟩;obtain⟨Rr,hRr⟩:∃ R,R=l%G:=⟨_,rfl⟩;unfold DivF at DV;rw[<- hQr,<- hRr] at DV;rw[<- hQr] at HLOW;clear hQr hRr;have b2c0:=HB2.o.ce 0;have b2c1:=HB2.o.ce 1;have b2f:=HB2.o.fz;have b2l:=HB2.o.lt;have b4c0:=HB4.o.ce 0;have b4c1:=HB4.o.ce 1;have b4f:=HB4.o.fz;have b4l:=HB4.o.lt;go_wp2_with fail
   with_reducible refine(DV.o _ zk).mono ?_
   rintro e wr ⟨xr,dr,ur,vr,rfl,ho,-,hb⟩;clear b2c0 b2c1 b2f b2l b4c0 b4c1 b4f b4l;clear DV
   go_upto_region 9 with (fail)
   have hbV:=(hb.alloc hb.size (.cells #[.bool (decide (Qr<0)),.slice xr (Ja Qr.natAbs) dr] 26)).alloc (by have:=hb.size;go_size) (.cells #[.bool (decide (Rr<0)),.slice ur (Ja Rr.natAbs) vr] 26);have HBn:=qh ((Bxs.new wr 26 [.bool (decide (Qr<0)),.slice xr (Ja Qr.natAbs) dr]).alloc (.cells #[.bool (decide (Rr<0)),.slice ur (Ja Rr.natAbs) vr] 26));have HOr:=qh (((ho.mono HWS.o).JD (.cells #[.bool (decide (Qr<0)),.slice xr (Ja Qr.natAbs) dr] 26)).JD (.cells #[.bool (decide (Rr<0)),.slice ur (Ja Rr.natAbs) vr] 26));obtain⟨vr',hV⟩:∃ V,V=(wr.alloc (.cells #[.bool (decide (Qr<0)),.slice xr (Ja Qr.natAbs) dr] 26)).alloc (.cells #[.bool (decide (Rr<0)),.slice ur (Ja Rr.natAbs) vr] 26):=⟨_,rfl⟩;rw[<- hV] at hbV HOr;rw[show(wr.alloc (.cells (List.toArray [.bool (decide (Qr<0)),.slice xr (Ja Qr.natAbs) dr]) 26)).alloc (.cells #[.bool (decide (Rr<0)),.slice ur (Ja Rr.natAbs) vr] 26)=vr' from hV.symm] at HBn;rw[show(wr.alloc (.cells #[.bool (decide (Qr<0)),.slice xr (Ja Qr.natAbs) dr] 26)).alloc (.cells #[.bool (decide (Rr<0)),.slice ur (Ja Rr.natAbs) vr] 26)=vr' from hV.symm];obtain⟨br,hbn⟩:∃ b,b=wr.heap.size:=⟨_,rfl⟩;rw[<- hbn] at HBn ⊢;clear hV hbn ho hb;have HB1:=qh (HB1.o.bl hbV);have HB2:=qh (HB2.o.bl hbV);have HB3:=qh (HB3.o.bl hbV);have HB4:=qh (HB4.o.bl hbV);have HB5:=qh (HB5.o.bl hbV);have HX1:=qh (HX1.o.below hbV);have HX2:=qh (HX2.o.below hbV);have HO4:=qh (HO4.o.below hbV)
   have HOq:=qh (HOq.o.below hbV);have HWS:=qh (zm HWS.o hbV.size);have KG:=qk KG hbV;clear hbV;have HB6:=qh HBn.o;clear HBn;have b5c0:=HB5.o.ce 0;have b5c1:=HB5.o.ce 1;have b5f:=HB5.o.fz;have b5l:=HB5.o.lt;have b6c0:=HB6.o.ce 0;have b6c1:=HB6.o.ce 1;have b6f:=HB6.o.fz;have b6l:=HB6.o.lt;have b3c0:=HB3.o.ce 0;have b3c1:=HB3.o.ce 1;have b3c2:=HB3.o.ce 2;have b3c3:=HB3.o.ce 3;have b3f:=HB3.o.fz;have b3l:=HB3.o.lt;go_wp2_with fail
   have hws:=HWS.o;refine bodyPost_ret (Je rfl _ _ _ _ _ _ _ rfl (((((HB3.o).put 0 _).put 1 _).put 2 _).put 3 _) Tryz.underlying28 rfl (by kernel_rfl)) rfl ?_;rw[<- HLOW.o.2.2.1,<- HLOW.o.2.2.2.1];refine⟨xq,dq,xr,dr,rfl,?_,?_,?_⟩
   ·exact(((((HOq.o).oz).oz).oz).oz).mono (by omega)
   ·exact(((((HOr.o).oz).oz).oz).oz).mono (by omega)
   ·exact((((KG.o).sc).sc).sc).sc
 ·have hc:¬cs<0:=by rw[hcs];unfold Js;rw[if_neg hneg];split <;> omega
  have HLOW:=qh (low_tl z1 z2 z1 z2 hz (Or.inr ⟨hneg,rfl,rfl⟩));have HN:=qh (And.intro hn1 hn2);clear hcs hneg hz hn1 hn2;go_enter Tryz.func176,Tryz.ntmps176
  go_upto_region 1 with (fail)
  rw[show((w.alloc (.cells #[.bool (decide (z1<0)),.slice a1 (Ja z1.natAbs) c1] 26)).alloc (.cells #[.bool (decide (z2<0)),.slice a2 (Ja z2.natAbs) c2] 26)).alloc (.cells #[.bool false,.slice none 0 0,.bool false,.slice none 0 0] 28)=W from HW.o.symm];clear HW;have b2c0:=HB2.o.ce 0;have b2c1:=HB2.o.ce 1;have b2f:=HB2.o.fz;have b2l:=HB2.o.lt;go_wp2_with fail
  with_reducible refine(SG.o).mono ?_
  rintro e w10 ⟨rfl,hb⟩;clear b2c0 b2c1 b2f b2l;have HB1:=qh (HB1.o.bl hb);have HB2:=qh (HB2.o.bl hb);have HB3:=qh (HB3.o.bl hb);have HX1:=qh (HX1.o.below hb);have HX2:=qh (HX2.o.below hb);have HWS:=qh (zm HWS.o hb.size);have KG:=qk KG hb;clear hb;clear SG;obtain⟨G,hG⟩:∃ G:Int,G=((Int.gcd z1 z2:Nat):Int):=⟨_,rfl⟩;have HGL:=qh (show Ja G.natAbs<=8000000 by rw[hG,Int.natAbs_natCast];have:=KC z1 z2;have:=HN.o;omega);rw[<- hG,<- HPE.o.1,<- HPE.o.2] at HLOW;have HG:=qh hG;clear hG;by_cases hl1:z2=1
  ·have HPQ:=qh (HLOW.o.2.2.2.2 hl1);have RO:=qh (fun (w':World) (hb:Below w10.heap.size w10 w')=>Zd (decide (z2<0)) a2 (Ja z2.natAbs) c2 (dgi z2.natAbs) w' (HX2.o.rd.below hb) (by have:=HN.o;omega) HC2.o (JS z2));rw[Jj,decide_eq_true hl1] at RO;clear hl1;have b2c0:=HB2.o.ce 0;have b2c1:=HB2.o.ce 1;have b2f:=HB2.o.fz;have b2l:=HB2.o.lt;go_wp2_with fail
   with_reducible refine(RO.o _ zk).mono ?_
   rintro e w11 ⟨rfl,hb⟩;clear b2c0 b2c1 b2f b2l;have HB1:=qh (HB1.o.bl hb);have HB2:=qh (HB2.o.bl hb);have HB3:=qh (HB3.o.bl hb);have HX1:=qh (HX1.o.below hb);have HX2:=qh (HX2.o.below hb);have HWS:=qh (zm HWS.o hb.size);have KG:=qk KG hb;clear hb;clear RO;have TW1:=qh (fun (w':World) (hb:Below w11.heap.size w11 w')=>Xl (decide (z1<0)) a1 (Ja z1.natAbs) c1 (dgi z1.natAbs) w' (HX1.o.rd.below hb) (by have:=HN.o;omega))
   go_upto_region 5 with (fail)
   have HS:=qh (fun (w':World) (hb:Below w11.heap.size w11 w')=>And.intro (HB1.o.bl hb).bx.all ((HB2.o.bl hb).bx.all))
   refine Jb 3 (JM [(1,Sp.made (fun x:Option Addr × Nat=>Jw (decide (z1<0)) x.1 (Ja z1.natAbs) x.2) (fun x w'=>Own 160 w' w11.heap.size x.1 (Ja z1.natAbs) x.2 (dgi z1.natAbs)))]) (fun w'=>Below w11.heap.size w11 w') (by kernel_rfl) (by kernel_rfl)
    (Jd (Sp.Ji fun x w w' h hb=>h.below hb) (Jk)) (fun _ _ h hb=>h.trans (hb.mono h.size)) (zk.drew) ?_
   simp only[zx,zy,zv,zw]
   (refine Jc rfl rfl ?_ (fun w' hw'=>?_) ?_;rotate_left;· (have hb':=Has.world hw';(obtain⟨k0,k1,k2,k3⟩:=(HS.o _ hb').1);clear hw';go_simp;try rfl))
   conv=>arg 9;simp only[Act.put,zq0,zq1,zq2]
   (refine Jg rfl rfl (fun w' hw'=>?_) ?_;· (have hb':=Has.world hw';go_simp;((refine(TW1.o w' hb').mono ?_;rintro e w'' ⟨za,zb,rfl,ho,-,hb⟩;exact⟨_,rfl,⟨⟨za,zb,rfl⟩,⟨za,zb,rfl,ho.mono hb'.size⟩⟩,hb⟩))))
   rintro _ ⟨y1,rfl⟩
   conv=>arg 9;simp only[Act.put,zq0,zq1,zq2]
   (refine Jc rfl rfl ?_ (fun w' hw'=>?_) ?_;rotate_left;· (have hb':=Has.world hw';(obtain⟨k0,k1,k2,k3⟩:=(HS.o _ hb').2);clear hw';go_simp;try rfl))
   conv=>arg 9;simp only[Act.put,zq0,zq1,zq2]
   refine Jn (fun w12 hb hF=>?_);have HO1:=qh (Own.mono (J6 (T:=160) (x:=y1) (b:=w11.heap.size) (s:=decide (z1<0)) (L:=Ja z1.natAbs) (o:=dgi z1.natAbs) (hF 1)) HWS.o);clear hF HS;have HB1:=qh (HB1.o.bl hb);have HB2:=qh (HB2.o.bl hb);have HB3:=qh (HB3.o.bl hb);have HX1:=qh (HX1.o.below hb);have HX2:=qh (HX2.o.below hb);have HWS:=qh (zm HWS.o hb.size);have KG:=qk KG hb;clear hb;clear TW1;have TW2:=qh (fun (w':World) (hb:Below w12.heap.size w12 w')=>Xl (decide (z2<0)) a2 (Ja z2.natAbs) c2 (dgi z2.natAbs) w' (HX2.o.rd.below hb) (by have:=HN.o;omega));have b3c0:=HB3.o.ce 0;have b3c1:=HB3.o.ce 1;have b3c2:=HB3.o.ce 2;have b3c3:=HB3.o.ce 3;have b3f:=HB3.o.fz;have b3l:=HB3.o.lt;go_wp2_with fail
   with_reducible refine(TW2.o _ zk).mono ?_
   rintro e w13 ⟨m2,e2,rfl,ho2,-,hb⟩;have HO2:=qh (ho2.mono HWS.o);clear ho2;clear b3c0 b3c1 b3c2 b3c3 b3f b3l;have HB1:=qh (HB1.o.bl hb);have HB2:=qh (HB2.o.bl hb);have HB3:=qh (HB3.o.bl hb);have HX1:=qh (HX1.o.below hb);have HX2:=qh (HX2.o.below hb);have HO1:=qh (HO1.o.below hb);have HWS:=qh (zm HWS.o hb.size);have KG:=qk KG hb;clear hb;have b3c0:=HB3.o.ce 0;have b3c1:=HB3.o.ce 1;have b3c2:=HB3.o.ce 2;have b3c3:=HB3.o.ce 3;have b3f:=HB3.o.fz;have b3l:=HB3.o.lt;go_wp2_with fail
   have hws:=HWS.o;refine bodyPost_ret (Je rfl _ _ _ _ _ _ _ rfl (((((HB3.o).put 0 _).put 1 _).put 2 _).put 3 _) Tryz.underlying28 rfl (by kernel_rfl)) rfl ?_;rw[HPQ.o.1,HPQ.o.2];refine⟨y1.1,y1.2,m2,e2,rfl,?_,?_,?_⟩
   ·exact(((((HO1.o).oz).oz).oz).oz).mono (by omega)
   ·exact(((((HO2.o).oz).oz).oz).oz).mono (by omega)
   ·exact((((KG.o).sc).sc).sc).sc
  ·have HL1:=qh hl1;have RO:=qh (fun (w':World) (hb:Below w10.heap.size w10 w')=>Zd (decide (z2<0)) a2 (Ja z2.natAbs) c2 (dgi z2.natAbs) w' (HX2.o.rd.below hb) (by have:=HN.o;omega) HC2.o (JS z2));rw[Jj,zo hl1] at RO;clear hl1;have b2c0:=HB2.o.ce 0;have b2c1:=HB2.o.ce 1;have b2f:=HB2.o.fz;have b2l:=HB2.o.lt;go_wp2_with fail
   with_reducible refine(RO.o _ zk).mono ?_
   rintro e w14 ⟨rfl,hb⟩;clear b2c0 b2c1 b2f b2l;have HB1:=qh (HB1.o.bl hb);have HB2:=qh (HB2.o.bl hb);have HB3:=qh (HB3.o.bl hb);have HX1:=qh (HX1.o.below hb);have HX2:=qh (HX2.o.below hb);have HWS:=qh (zm HWS.o hb.size);have KG:=qk KG hb;clear hb;clear RO;have GC:=qh (fun (w':World) (hb:Below w14.heap.size w14 w')=>Vz (decide (z1<0)) a1 (Ja z1.natAbs) c1 (dgi z1.natAbs) (decide (z2<0)) a2 (Ja z2.natAbs) c2 (dgi z2.natAbs) w' (HX1.o.rd.below hb) (by have:=HN.o;omega) HC1.o (HX2.o.rd.below hb) (by have:=HN.o;omega) HC2.o);rw[Jj,Jj,<- HG.o] at GC;have b1c0:=HB1.o.ce 0;have b1c1:=HB1.o.ce 1;have b1f:=HB1.o.fz;have b1l:=HB1.o.lt;have b2c0:=HB2.o.ce 0;have b2c1:=HB2.o.ce 1;have b2f:=HB2.o.fz;have b2l:=HB2.o.lt;go_wp2_with fail
   with_reducible refine(GC.o _ zk).mono ?_
   rintro e wg ⟨xg,dg,rfl,ho,hb⟩;clear b1c0 b1c1 b1f b1l b2c0 b2c1 b2f b2l;clear GC
   go_upto_region 7 with (fail)
   have hbV:=hb.alloc hb.size (.cells #[.bool (decide (G<0)),.slice xg (Ja G.natAbs) dg] 26);have HB4:=qh (Bxs.new wg 26 [.bool (decide (G<0)),.slice xg (Ja G.natAbs) dg]);have HO4:=qh ((ho.mono HWS.o).JD (.cells #[.bool (decide (G<0)),.slice xg (Ja G.natAbs) dg] 26));obtain⟨vg,hV⟩:∃ V,V=wg.alloc (.cells #[.bool (decide (G<0)),.slice xg (Ja G.natAbs) dg] 26):=⟨_,rfl⟩;rw[<- hV] at hbV HO4;rw[show wg.alloc (.cells (List.toArray [.bool (decide (G<0)),.slice xg (Ja G.natAbs) dg]) 26)=vg from hV.symm] at HB4;rw[show wg.alloc (.cells #[.bool (decide (G<0)),.slice xg (Ja G.natAbs) dg] 26)=vg from hV.symm];obtain⟨b4,hb4⟩:∃ b,b=wg.heap.size:=⟨_,rfl⟩;rw[<- hb4] at HB4 ⊢;clear hV hb4 ho hb;have HB1:=qh (HB1.o.bl hbV);have HB2:=qh (HB2.o.bl hbV);have HB3:=qh (HB3.o.bl hbV);have HX1:=qh (HX1.o.below hbV);have HX2:=qh (HX2.o.below hbV);have HWS:=qh (zm HWS.o hbV.size);have KG:=qk KG hbV;clear hbV;have DV:=qh (fun (w':World) (hb:Below vg.heap.size vg w')=>Kz z1 G a1 xg c1 dg w' (HX1.o.rd.below hb) (by have:=HN.o;omega) HC1.o (HO4.o.rd.below hb) (by have:=HGL.o;omega) HO4.o.le HLOW.o.2.1);obtain⟨Qq,hQq⟩:∃ Q,Q=z1/G:=⟨_,rfl⟩;obtain⟨Rq,hRq⟩:∃ R,R=z1%G:=⟨_,rfl⟩;unfold DivF at DV;rw[<- hQq,<- hRq] at DV;rw[<- hQq] at HLOW;clear hQq hRq;have b1c0:=HB1.o.ce 0;have b1c1:=HB1.o.ce 1;have b1f:=HB1.o.fz;have b1l:=HB1.o.lt;have b4c0:=HB4.o.ce 0;have b4c1:=HB4.o.ce 1
   have b4f:=HB4.o.fz;have b4l:=HB4.o.lt;go_wp2_with fail
   with_reducible refine(DV.o _ zk).mono ?_
   rintro e wq ⟨xq,dq,uq,vq,rfl,ho,-,hb⟩;clear b1c0 b1c1 b1f b1l b4c0 b4c1 b4f b4l;clear DV
   go_upto_region 8 with (fail)
   have hbV:=(hb.alloc hb.size (.cells #[.bool (decide (Qq<0)),.slice xq (Ja Qq.natAbs) dq] 26)).alloc (by have:=hb.size;go_size) (.cells #[.bool (decide (Rq<0)),.slice uq (Ja Rq.natAbs) vq] 26);have HBn:=qh ((Bxs.new wq 26 [.bool (decide (Qq<0)),.slice xq (Ja Qq.natAbs) dq]).alloc (.cells #[.bool (decide (Rq<0)),.slice uq (Ja Rq.natAbs) vq] 26));have HOq:=qh (((ho.mono HWS.o).JD (.cells #[.bool (decide (Qq<0)),.slice xq (Ja Qq.natAbs) dq] 26)).JD (.cells #[.bool (decide (Rq<0)),.slice uq (Ja Rq.natAbs) vq] 26));obtain⟨vq',hV⟩:∃ V,V=(wq.alloc (.cells #[.bool (decide (Qq<0)),.slice xq (Ja Qq.natAbs) dq] 26)).alloc (.cells #[.bool (decide (Rq<0)),.slice uq (Ja Rq.natAbs) vq] 26):=⟨_,rfl⟩;rw[<- hV] at hbV HOq;rw[show(wq.alloc (.cells (List.toArray [.bool (decide (Qq<0)),.slice xq (Ja Qq.natAbs) dq]) 26)).alloc (.cells #[.bool (decide (Rq<0)),.slice uq (Ja Rq.natAbs) vq] 26)=vq' from hV.symm] at HBn;rw[show(wq.alloc (.cells #[.bool (decide (Qq<0)),.slice xq (Ja Qq.natAbs) dq] 26)).alloc (.cells #[.bool (decide (Rq<0)),.slice uq (Ja Rq.natAbs) vq] 26)=vq' from hV.symm];obtain⟨bq,hbn⟩:∃ b,b=wq.heap.size:=⟨_,rfl⟩;rw[<- hbn] at HBn ⊢;clear hV hbn ho hb;have HB1:=qh (HB1.o.bl hbV);have HB2:=qh (HB2.o.bl hbV);have HB3:=qh (HB3.o.bl hbV);have HB4:=qh (HB4.o.bl hbV);have HX1:=qh (HX1.o.below hbV);have HX2:=qh (HX2.o.below hbV);have HO4:=qh (HO4.o.below hbV);have HWS:=qh (zm HWS.o hbV.size)
   have KG:=qk KG hbV;clear hbV;have HB5:=qh HBn.o;clear HBn;have DV:=qh (fun (w':World) (hb:Below vq'.heap.size vq' w')=>Kz z2 G a2 xg c2 dg w' (HX2.o.rd.below hb) (by have:=HN.o;omega) HC2.o (HO4.o.rd.below hb) (by have:=HGL.o;omega) HO4.o.le HLOW.o.2.1);obtain⟨Qr,hQr⟩:∃ Q,Q=z2/G:=⟨_,rfl⟩;obtain⟨Rr,hRr⟩:∃ R,R=z2%G:=⟨_,rfl⟩;unfold DivF at DV;rw[<- hQr,<- hRr] at DV;rw[<- hQr] at HLOW;clear hQr hRr;have b2c0:=HB2.o.ce 0;have b2c1:=HB2.o.ce 1;have b2f:=HB2.o.fz;have b2l:=HB2.o.lt;have b4c0:=HB4.o.ce 0;have b4c1:=HB4.o.ce 1;have b4f:=HB4.o.fz;have b4l:=HB4.o.lt;go_wp2_with fail
   with_reducible refine(DV.o _ zk).mono ?_
   rintro e wr ⟨xr,dr,ur,vr,rfl,ho,-,hb⟩;clear b2c0 b2c1 b2f b2l b4c0 b4c1 b4f b4l;clear DV
   go_upto_region 9 with (fail)
   have hbV:=(hb.alloc hb.size (.cells #[.bool (decide (Qr<0)),.slice xr (Ja Qr.natAbs) dr] 26)).alloc (by have:=hb.size;go_size) (.cells #[.bool (decide (Rr<0)),.slice ur (Ja Rr.natAbs) vr] 26);have HBn:=qh ((Bxs.new wr 26 [.bool (decide (Qr<0)),.slice xr (Ja Qr.natAbs) dr]).alloc (.cells #[.bool (decide (Rr<0)),.slice ur (Ja Rr.natAbs) vr] 26));have HOr:=qh (((ho.mono HWS.o).JD (.cells #[.bool (decide (Qr<0)),.slice xr (Ja Qr.natAbs) dr] 26)).JD (.cells #[.bool (decide (Rr<0)),.slice ur (Ja Rr.natAbs) vr] 26));obtain⟨vr',hV⟩:∃ V,V=(wr.alloc (.cells #[.bool (decide (Qr<0)),.slice xr (Ja Qr.natAbs) dr] 26)).alloc (.cells #[.bool (decide (Rr<0)),.slice ur (Ja Rr.natAbs) vr] 26):=⟨_,rfl⟩;rw[<- hV] at hbV HOr;rw[show(wr.alloc (.cells (List.toArray [.bool (decide (Qr<0)),.slice xr (Ja Qr.natAbs) dr]) 26)).alloc (.cells #[.bool (decide (Rr<0)),.slice ur (Ja Rr.natAbs) vr] 26)=vr' from hV.symm] at HBn;rw[show(wr.alloc (.cells #[.bool (decide (Qr<0)),.slice xr (Ja Qr.natAbs) dr] 26)).alloc (.cells #[.bool (decide (Rr<0)),.slice ur (Ja Rr.natAbs) vr] 26)=vr' from hV.symm];obtain⟨br,hbn⟩:∃ b,b=wr.heap.size:=⟨_,rfl⟩;rw[<- hbn] at HBn ⊢;clear hV hbn ho hb;have HB1:=qh (HB1.o.bl hbV);have HB2:=qh (HB2.o.bl hbV);have HB3:=qh (HB3.o.bl hbV);have HB4:=qh (HB4.o.bl hbV);have HB5:=qh (HB5.o.bl hbV);have HX1:=qh (HX1.o.below hbV);have HX2:=qh (HX2.o.below hbV);have HO4:=qh (HO4.o.below hbV)
   have HOq:=qh (HOq.o.below hbV);have HWS:=qh (zm HWS.o hbV.size);have KG:=qk KG hbV;clear hbV;have HB6:=qh HBn.o;clear HBn;have b5c0:=HB5.o.ce 0;have b5c1:=HB5.o.ce 1;have b5f:=HB5.o.fz;have b5l:=HB5.o.lt;have b6c0:=HB6.o.ce 0;have b6c1:=HB6.o.ce 1;have b6f:=HB6.o.fz;have b6l:=HB6.o.lt;have b3c0:=HB3.o.ce 0;have b3c1:=HB3.o.ce 1;have b3c2:=HB3.o.ce 2;have b3c3:=HB3.o.ce 3;have b3f:=HB3.o.fz;have b3l:=HB3.o.lt;go_wp2_with fail
   have hws:=HWS.o;refine bodyPost_ret (Je rfl _ _ _ _ _ _ _ rfl (((((HB3.o).put 0 _).put 1 _).put 2 _).put 3 _) Tryz.underlying28 rfl (by kernel_rfl)) rfl ?_;rw[<- HLOW.o.2.2.1,<- HLOW.o.2.2.2.1];refine⟨xq,dq,xr,dr,rfl,?_,?_,?_⟩
   ·exact(((((HOq.o).oz).oz).oz).oz).mono (by omega)
   ·exact(((((HOr.o).oz).oz).oz).oz).mono (by omega)
   ·exact((((KG.o).sc).sc).sc).sc
theorem jdo (s1:Bool) (a1:Option Addr) (n1 c1:Nat) (o1:Nat->Int) (s2:Bool) (a2:Option Addr) (n2 c2:Nat) (o2:Nat->Int) (w:World) (x:Rat) (hx:x=Xh s1 n1 o1 s2 n2 o2)
  (h1:Rd w a1 n1 o1) (hn1:n1<=1000000) (hc1:n1<=c1) (h2:Rd w a2 n2 o2) (hn2:n2<=1000000) (hc2:n2<=c2) :
  Calls Tryz.prog 77 #[JU s1 a1 n1 c1 s2 a2 n2 c2] w fun e w'=>e=.returned (.int .i64 (Js x.num 0))/\Below w.heap.size w w':=by
 have hfar:∀ {a:Option Addr} {n:Nat} {o:Nat->Int},Rd w a n o->0<n->∀ p,a=some p->p.block<w.heap.size:=fun h h0 p hp=>by
  obtain⟨b,off,e,hc⟩:=h.cells h0
  rw[e] at hp;cases hp
  exact block_lt_of_cell (hc 0 h0)
 have l1:=JV (s1:=s1) (s2:=s2) h1.rng h2.rng;rw[<- hx] at l1;have HL:=qh (show Ja x.num.natAbs<=1000001 by omega);have HB1:=qh (Bxs.new w 28 [.bool s1,.slice a1 n1 c1,.bool s2,.slice a2 n2 c2]);obtain⟨W,hW⟩:∃ W,W=w.alloc (.cells #[.bool s1,.slice a1 n1 c1,.bool s2,.slice a2 n2 c2] 28):=⟨_,rfl⟩;have KG:=qh (show Below w.heap.size w W by rw[hW];exact zk.alloc zj _);have HB1:=qh (show Bxs W w.heap.size 28 [.bool s1,.slice a1 n1 c1,.bool s2,.slice a2 n2 c2] by rw[hW];exact HB1.o);have OX:=qh (ZA s1 a1 n1 c1 o1 s2 a2 n2 c2 o2 W w.heap.size KG.o.size (h1.below KG.o) (by omega) hc1 (hfar h1) (h2.below KG.o) (by omega) hc2 (hfar h2));rw[<- hx] at OX;obtain⟨p,hp⟩:∃ p,p=x.num:=⟨_,rfl⟩;obtain⟨q,hq⟩:∃ q:Int,q=(x.den:Int):=⟨_,rfl⟩;rw[<- hp,<- hq] at OX;rw[<- hp] at HL ⊢;have HW:=qh hW;clear hW h1 h2 l1 hfar hx hp hq;go_enter Tryz.func77,Tryz.ntmps77
 go_upto_region 1 with (fail)
 rw[show w.alloc (.cells #[.bool s1,.slice a1 n1 c1,.bool s2,.slice a2 n2 c2] 28)=W from HW.o.symm];clear HW;obtain⟨x0,x1,x2,x3,x4,x5⟩:=Jf HB1.o;go_wp2_with fail
 with_reducible refine OX.o.mono ?_
 intro e w2 hh;obtain⟨⟨za,zc,zb,zd⟩,rfl,hi,hb⟩:=Q8 hh;have hff:=Y7 (decide (p<0)) za (Ja p.natAbs) zc (decide (q<0)) zb (Ja q.natAbs) zd w2;have SG:=qh (ZJ (decide (p<0)) za (Ja p.natAbs) zc (dgi p.natAbs) w2 hi.r1.rd (by have:=HL.o;omega) hi.c1);rw[Jj] at SG;have KG:=qk KG hb;clear hh hi hb OX x0 x1 x2 x3 x4 x5 HB1;go_wp2_with fail
 with_reducible refine SG.o.mono ?_
 rintro e w3 ⟨rfl,hb⟩;have KG:=qk KG hb;clear hb SG;go_wp2_with fail
 go_ret;exact⟨rfl,KG.o⟩
open Classical in
theorem jgd (s1:Bool) (a1:Option Addr) (n1 c1:Nat) (o1:Nat->Int) (s2:Bool) (a2:Option Addr) (n2 c2:Nat) (o2:Nat->Int) (w:World) (x:Rat) (hx:x=Xh s1 n1 o1 s2 n2 o2) (h1:Rd w a1 n1 o1) (hn1:n1<=1000000) (hc1:n1<=c1) (h2:Rd w a2 n2 o2) (hn2:n2<=1000000) (hc2:n2<=c2) :
  Calls Tryz.prog 175 #[JU s1 a1 n1 c1 s2 a2 n2 c2] w (Kt w (-x).num ((-x).den:Int)):=by
 have hfar:∀ {a:Option Addr} {n:Nat} {o:Nat->Int},Rd w a n o->0<n->∀ p,a=some p->p.block<w.heap.size:=fun h h0 p hp=>by
  obtain⟨b,off,e,hc⟩:=h.cells h0
  rw[e] at hp;cases hp
  exact block_lt_of_cell (hc 0 h0)
 have l1:=JV (s1:=s1) (s2:=s2) h1.rng h2.rng;rw[<- hx] at l1;obtain⟨p,hp⟩:∃ p,p=x.num:=⟨_,rfl⟩;obtain⟨q,hq⟩:∃ q:Int,q=(x.den:Int):=⟨_,rfl⟩;rw[<- hp,<- hq] at l1;have HL:=qh (show Ja p.natAbs<=1000001/\Ja q.natAbs<=1000001 by omega);have HP:=qh (And.intro hx (And.intro hp hq));have HF:=qh (And.intro (hfar h1) (hfar h2));obtain⟨np,hnp⟩:∃ np,np = -p:=⟨_,rfl⟩;have HE:=qh (show(-x).num=np/\((-x).den:Int)=q by rw[hnp,hp,hq,Rat.neg_num,Rat.neg_den];exact⟨rfl,rfl⟩);have HNP:=qh hnp;rw[HE.o.1,HE.o.2];clear hnp;have HB1:=qh ((Bxs.new (w) 28 [.bool s1,.slice a1 n1 c1,.bool s2,.slice a2 n2 c2]).alloc (.cells #[.bool false,.slice none 0 0,.bool false,.slice none 0 0] 28));have HB2:=qh (Bxs.new (w.alloc (.cells #[.bool s1,.slice a1 n1 c1,.bool s2,.slice a2 n2 c2] 28)) 28 [.bool false,.slice none 0 0,.bool false,.slice none 0 0]);obtain⟨W,hW⟩:∃ W,W=(w.alloc (.cells #[.bool s1,.slice a1 n1 c1,.bool s2,.slice a2 n2 c2] 28)).alloc (.cells #[.bool false,.slice none 0 0,.bool false,.slice none 0 0] 28):=⟨_,rfl⟩;have KG:=qh (show Below w.heap.size w W by rw[hW];exact(zk.alloc zj _).alloc (by go_size) _);have HWS:=qh (show w.heap.size+2<=W.heap.size by rw[hW];simp only[World.size_alloc];omega);have HB1:=qh (show Bxs W (w.heap.size) 28 [.bool s1,.slice a1 n1 c1,.bool s2,.slice a2 n2 c2] by have h:=HB1.o;rw[hW];exact h);have HB2:=qh (show Bxs W (w.heap.size+1) 28 [.bool false,.slice none 0 0,.bool false,.slice none 0 0] by have h:=HB2.o;simp only[World.size_alloc] at h;rw[hW];exact h)
 have HW:=qh hW;clear hW;have HR1:=qh (show RdS W w.heap.size (w.heap.size+2) a1 n1 o1 from⟨h1.below KG.o,fun h0 p hp=>Or.inl (hfar h1 h0 p hp)⟩);have HR2:=qh (show RdS W w.heap.size (w.heap.size+2) a2 n2 o2 from⟨h2.below KG.o,fun h0 p hp=>Or.inl (hfar h2 h0 p hp)⟩);clear hx hp hq l1 h1 h2 hfar;go_enter Tryz.func175,Tryz.ntmps175
 go_upto_region 1 with (fail)
 rw[show(w.alloc (.cells #[.bool s1,.slice a1 n1 c1,.bool s2,.slice a2 n2 c2] 28)).alloc (.cells #[.bool false,.slice none 0 0,.bool false,.slice none 0 0] 28)=W from HW.o.symm];clear HW;have FT:=qh (fun (w':World) (hb:Below W.heap.size W w')=>ZA s1 a1 n1 c1 o1 s2 a2 n2 c2 o2 w' w.heap.size (by have:=HWS.o;have:=hb.size;omega) (HR1.o.rd.below hb) (by omega) hc1 HF.o.1 (HR2.o.rd.below hb) (by omega) hc2 HF.o.2);rw[<- HP.o.1,<- HP.o.2.1,<- HP.o.2.2] at FT;have b1c0:=HB1.o.ce 0;have b1c1:=HB1.o.ce 1;have b1c2:=HB1.o.ce 2;have b1c3:=HB1.o.ce 3;have b1f:=HB1.o.fz;have b1l:=HB1.o.lt;go_wp2_with fail
 with_reducible refine(FT.o _ zk).mono ?_
 intro e w1 hh;obtain⟨xa,rfl,hi,hb⟩:=Q8 hh;have HIxa:=qh (hi.up HWS.o);clear b1c0 b1c1 b1c2 b1c3 b1f b1l;clear hh hi FT;have HB1:=qh (HB1.o.bl hb);have HB2:=qh (HB2.o.bl hb);have HR1:=qh (HR1.o.below hb);have HR2:=qh (HR2.o.below hb);have HWS:=qh (zm HWS.o hb.size);have KG:=qk KG hb;clear hb;have b1c0:=HB1.o.ce 0;have b1c1:=HB1.o.ce 1;have b1c2:=HB1.o.ce 2;have b1c3:=HB1.o.ce 3;have b1f:=HB1.o.fz;have b1l:=HB1.o.lt
 go_upto_region 2 with (fail)
 obtain⟨v2,hV⟩:∃ V,V=(((w1.setCell ⟨w.heap.size,0,none⟩ (.bool (decide (p<0)))).setCell ⟨w.heap.size,1,none⟩ (.slice xa.1 (Ja p.natAbs) xa.2.1)).setCell ⟨w.heap.size,2,none⟩ (.bool (decide (q<0)))).setCell ⟨w.heap.size,3,none⟩ (.slice xa.2.2.1 (Ja q.natAbs) xa.2.2.2):=⟨_,rfl⟩;have HB1:=qh (show Bxs v2 (w.heap.size) 28 [.bool (decide (p<0)),.slice xa.1 (Ja p.natAbs) xa.2.1,.bool (decide (q<0)),.slice xa.2.2.1 (Ja q.natAbs) xa.2.2.2] by rw[hV];exact((((HB1.o).put 0 _).put 1 _).put 2 _).put 3 _);have HB2:=qh (show Bxs v2 (w.heap.size+1) 28 [.bool false,.slice none 0 0,.bool false,.slice none 0 0] by rw[hV];exact((((HB2.o).oz).oz).oz).oz)
 have hsin:Sin w.heap.size (w.heap.size+2) w1 v2:=by rw[hV];exact((((Sin.refl _ _ _).sz).sz).sz).sz
 have HR1:=qh (HR1.o.sin hsin);have HR2:=qh (HR2.o.sin hsin);have HIxa:=qh (HIxa.o.sin hsin);clear hsin;have KG:=qh (show Below w.heap.size w v2 by rw[hV];exact((((KG.o).sc).sc).sc).sc);have HWS:=qh (show w.heap.size+2<=v2.heap.size by rw[hV];simp only[World.size_setCell];have:=HWS.o;omega);rw[show(((w1.setCell ⟨w.heap.size,0,none⟩ (.bool (decide (p<0)))).setCell ⟨w.heap.size,1,none⟩ (.slice xa.1 (Ja p.natAbs) xa.2.1)).setCell ⟨w.heap.size,2,none⟩ (.bool (decide (q<0)))).setCell ⟨w.heap.size,3,none⟩ (.slice xa.2.2.1 (Ja q.natAbs) xa.2.2.2)=v2 from hV.symm];clear hV;clear b1c0 b1c1 b1c2 b1c3 b1f b1l;clear HR1 HR2;have NG:=qh (fun (w':World) (hb:Below v2.heap.size v2 w')=>Ko (decide (p<0)) xa.1 (Ja p.natAbs) xa.2.1 (dgi p.natAbs) w' (HIxa.o.r1.rd.below hb) (by have:=HL.o;omega) HIxa.o.c1);rw[Jj,<- HNP.o] at NG;have HS:=qh (fun (w':World) (hb:Below v2.heap.size v2 w')=>Jf (HB1.o.bl hb))
 refine Jb 5 (JM [(2,Sp.made (fun x:Option Addr × Nat=>Jw (decide (np<0)) x.1 (Ja np.natAbs) x.2) (fun x w'=>Own 160 w' v2.heap.size x.1 (Ja np.natAbs) x.2 (dgi np.natAbs)))]) (fun w'=>Below v2.heap.size v2 w') (by kernel_rfl) (by kernel_rfl)
  (Jd (Sp.Ji fun x w w' h hb=>h.below hb) (Jk)) (fun _ _ h hb=>h.trans (hb.mono h.size)) (zk.drew) ?_
 simp only[zx,zy,zv,zw]
 iterate 2
  (refine Jc rfl rfl ?_ (fun w' hw'=>?_) ?_;rotate_left;· (have hb':=Has.world hw';(obtain⟨k0,k1,k2,k3,k4,k5⟩:=(HS.o _ hb'));clear hw';go_simp;try rfl))
  conv=>arg 9;simp only[Act.put,zq0,zq1,zq2]
 (refine Jg rfl rfl (fun w' hw'=>?_) ?_;· (have hb':=Has.world hw';go_simp;((refine(NG.o w' hb').mono ?_;rintro e w'' ⟨za,zb,rfl,ho,hb⟩;exact⟨_,rfl,⟨⟨za,zb,rfl⟩,⟨za,zb,rfl,ho.mono hb'.size⟩⟩,hb⟩))))
 rintro _ ⟨y2,rfl⟩
 conv=>arg 9;simp only[Act.put,zq0,zq1,zq2]
 iterate 2
  (refine Jc rfl rfl ?_ (fun w' hw'=>?_) ?_;rotate_left;· (have hb':=Has.world hw';(obtain⟨k0,k1,k2,k3,k4,k5⟩:=(HS.o _ hb'));clear hw';go_simp;try rfl))
  conv=>arg 9;simp only[Act.put,zq0,zq1,zq2]
 refine Jn (fun w3 hb hF=>?_);have HO2:=qh (Own.mono (J6 (T:=160) (x:=y2) (b:=v2.heap.size) (s:=decide (np<0)) (L:=Ja np.natAbs) (o:=dgi np.natAbs) (hF 2)) HWS.o);clear hF HS;have HB1:=qh (HB1.o.bl hb);have HB2:=qh (HB2.o.bl hb);have HIxa:=qh (HIxa.o.below hb);have HWS:=qh (zm HWS.o hb.size);have KG:=qk KG hb;clear hb;clear NG;have TW:=qh (fun (w':World) (hb:Below w3.heap.size w3 w')=>Xl (decide (q<0)) xa.2.2.1 (Ja q.natAbs) xa.2.2.2 (dgi q.natAbs) w' (HIxa.o.r2.rd.below hb) (by have:=HL.o;omega));have b2c0:=HB2.o.ce 0;have b2c1:=HB2.o.ce 1;have b2c2:=HB2.o.ce 2;have b2c3:=HB2.o.ce 3;have b2f:=HB2.o.fz;have b2l:=HB2.o.lt;go_wp2_with fail
 with_reducible refine(TW.o _ zk).mono ?_
 rintro e w4 ⟨m2,e2,rfl,ho2,-,hb⟩;have HQ2:=qh (ho2.mono HWS.o);clear ho2;clear b2c0 b2c1 b2c2 b2c3 b2f b2l;have HB1:=qh (HB1.o.bl hb);have HB2:=qh (HB2.o.bl hb);have HIxa:=qh (HIxa.o.below hb);have HO2:=qh (HO2.o.below hb);have HWS:=qh (zm HWS.o hb.size);have KG:=qk KG hb;clear hb;clear TW;have b2c0:=HB2.o.ce 0;have b2c1:=HB2.o.ce 1;have b2c2:=HB2.o.ce 2;have b2c3:=HB2.o.ce 3;have b2f:=HB2.o.fz;have b2l:=HB2.o.lt;go_wp2_with fail
 have hws:=HWS.o;refine bodyPost_ret (Je rfl _ _ _ _ _ _ _ rfl (((((HB2.o).put 0 _).put 1 _).put 2 _).put 3 _) Tryz.underlying28 rfl (by kernel_rfl)) rfl ?_;refine⟨y2.1,y2.2,m2,e2,rfl,?_,?_,?_⟩
 ·exact(((((HO2.o).oz).oz).oz).oz).mono (by omega)
 ·exact(((((HQ2.o).oz).oz).oz).oz).mono (by omega)
 ·exact((((KG.o).sc).sc).sc).sc
open Classical in
theorem jge (s1:Bool) (a1:Option Addr) (n1 c1:Nat) (o1:Nat->Int) (s2:Bool) (a2:Option Addr) (n2 c2:Nat) (o2:Nat->Int) (s3:Bool) (a3:Option Addr) (n3 c3:Nat) (o3:Nat->Int) (s4:Bool) (a4:Option Addr) (n4 c4:Nat) (o4:Nat->Int) (w:World) (x y:Rat) (hx:x=Xh s1 n1 o1 s2 n2 o2) (hy:y=Xh s3 n3 o3 s4 n4 o4) (h1:Rd w a1 n1 o1) (hn1:n1<=1000000) (hc1:n1<=c1) (h2:Rd w a2 n2 o2) (hn2:n2<=1000000) (hc2:n2<=c2) (h3:Rd w a3 n3 o3) (hn3:n3<=1000000) (hc3:n3<=c3) (h4:Rd w a4 n4 o4) (hn4:n4<=1000000) (hc4:n4<=c4) :
  Calls Tryz.prog 81 #[JU s1 a1 n1 c1 s2 a2 n2 c2,JU s3 a3 n3 c3 s4 a4 n4 c4] w (Kt w (x*y).num ((x*y).den:Int)):=by
 have hfar:∀ {a:Option Addr} {n:Nat} {o:Nat->Int},Rd w a n o->0<n->∀ p,a=some p->p.block<w.heap.size:=fun h h0 p hp=>by
  obtain⟨b,off,e,hc⟩:=h.cells h0
  rw[e] at hp;cases hp
  exact block_lt_of_cell (hc 0 h0)
 have l1:=JV (s1:=s1) (s2:=s2) h1.rng h2.rng;rw[<- hx] at l1;have l2:=JV (s1:=s3) (s2:=s4) h3.rng h4.rng;rw[<- hy] at l2;obtain⟨p,hp⟩:∃ p,p=x.num:=⟨_,rfl⟩;obtain⟨q,hq⟩:∃ q:Int,q=(x.den:Int):=⟨_,rfl⟩;rw[<- hp,<- hq] at l1;obtain⟨r,hr⟩:∃ r,r=y.num:=⟨_,rfl⟩;obtain⟨t,ht⟩:∃ t:Int,t=(y.den:Int):=⟨_,rfl⟩;rw[<- hr,<- ht] at l2;have HL:=qh (show(Ja p.natAbs<=1000001/\Ja q.natAbs<=1000001)/\Ja r.natAbs<=1000001/\Ja t.natAbs<=1000001 by omega);have HP:=qh (And.intro (And.intro hx (And.intro hp hq)) (And.intro hy (And.intro hr ht)));have HF:=qh (And.intro (And.intro (hfar h1) (hfar h2)) (And.intro (hfar h3) (hfar h4)));have hl1:=Jq p.natAbs t.natAbs;have hl2:=Jq r.natAbs q.natAbs;have hl3:=Jq q.natAbs t.natAbs;have hl4:=Jq p.natAbs r.natAbs;rw[<- Int.natAbs_mul] at hl1 hl2 hl3 hl4;obtain⟨T1,hT1⟩:∃ T1,T1=p*r:=⟨_,rfl⟩;obtain⟨Lw,hLw⟩:∃ Lw,Lw=q*t:=⟨_,rfl⟩;have HE:=qh (And.intro hT1 hLw);rw[<- hT1] at hl4;rw[<- hLw] at hl3;have HM:=qh (show Ja T1.natAbs<=2000002/\Ja Lw.natAbs<=2000002 by omega);obtain⟨z,hz⟩:∃ z,z=x*y:=⟨_,rfl⟩;have HZ:=qh (show Rat.divInt T1 Lw=z/\Lw≠0 from⟨by rw[hT1,hLw,hp,hq,hr,ht,hz,Rat.mul_def',<- Rat.divInt_ofNat,Int.natCast_mul],by rw[hLw,hq,ht];exact Int.ne_of_gt (Int.mul_pos (Qw x) (Qw y))⟩);rw[<- hz];obtain⟨zp,hzp⟩:∃ zp,zp=z.num:=⟨_,rfl⟩;obtain⟨zq,hzq⟩:∃ zq:Int,zq=(z.den:Int):=⟨_,rfl⟩;have HZE:=qh (And.intro hzp hzq);rw[<- hzp,<- hzq];clear hT1 hLw hz hzp hzq hl1 hl2 hl3 hl4;have HB1:=qh (((Bxs.new (w) 28 [.bool s1,.slice a1 n1 c1,.bool s2,.slice a2 n2 c2]).alloc (.cells #[.bool s3,.slice a3 n3 c3,.bool s4,.slice a4 n4 c4] 28)).alloc (.cells #[.bool false,.slice none 0 0,.bool false,.slice none 0 0] 28))
 have HB2:=qh ((Bxs.new (w.alloc (.cells #[.bool s1,.slice a1 n1 c1,.bool s2,.slice a2 n2 c2] 28)) 28 [.bool s3,.slice a3 n3 c3,.bool s4,.slice a4 n4 c4]).alloc (.cells #[.bool false,.slice none 0 0,.bool false,.slice none 0 0] 28));have HB3:=qh (Bxs.new ((w.alloc (.cells #[.bool s1,.slice a1 n1 c1,.bool s2,.slice a2 n2 c2] 28)).alloc (.cells #[.bool s3,.slice a3 n3 c3,.bool s4,.slice a4 n4 c4] 28)) 28 [.bool false,.slice none 0 0,.bool false,.slice none 0 0]);obtain⟨W,hW⟩:∃ W,W=((w.alloc (.cells #[.bool s1,.slice a1 n1 c1,.bool s2,.slice a2 n2 c2] 28)).alloc (.cells #[.bool s3,.slice a3 n3 c3,.bool s4,.slice a4 n4 c4] 28)).alloc (.cells #[.bool false,.slice none 0 0,.bool false,.slice none 0 0] 28):=⟨_,rfl⟩;have KG:=qh (show Below w.heap.size w W by rw[hW];exact((zk.alloc zj _).alloc (by go_size) _).alloc (by go_size) _);have HWS:=qh (show w.heap.size+3<=W.heap.size by rw[hW];simp only[World.size_alloc];omega);have HB1:=qh (show Bxs W (w.heap.size) 28 [.bool s1,.slice a1 n1 c1,.bool s2,.slice a2 n2 c2] by have h:=HB1.o;rw[hW];exact h);have HB2:=qh (show Bxs W (w.heap.size+1) 28 [.bool s3,.slice a3 n3 c3,.bool s4,.slice a4 n4 c4] by have h:=HB2.o;simp only[World.size_alloc] at h;rw[hW];exact h);have HB3:=qh (show Bxs W (w.heap.size+1+1) 28 [.bool false,.slice none 0 0,.bool false,.slice none 0 0] by have h:=HB3.o;simp only[World.size_alloc] at h;rw[hW];exact h);have HW:=qh hW;clear hW;have HR1:=qh (show RdS W w.heap.size (w.heap.size+3) a1 n1 o1 from⟨h1.below KG.o,fun h0 p hp=>Or.inl (hfar h1 h0 p hp)⟩)
 have HR2:=qh (show RdS W w.heap.size (w.heap.size+3) a2 n2 o2 from⟨h2.below KG.o,fun h0 p hp=>Or.inl (hfar h2 h0 p hp)⟩);have HR3:=qh (show RdS W w.heap.size (w.heap.size+3) a3 n3 o3 from⟨h3.below KG.o,fun h0 p hp=>Or.inl (hfar h3 h0 p hp)⟩);have HR4:=qh (show RdS W w.heap.size (w.heap.size+3) a4 n4 o4 from⟨h4.below KG.o,fun h0 p hp=>Or.inl (hfar h4 h0 p hp)⟩);clear hx hp hq l1 h1 h2 hfar hy hr ht l2 h3 h4;go_enter Tryz.func81,Tryz.ntmps81
 go_upto_region 1 with (fail)
 rw[show((w.alloc (.cells #[.bool s1,.slice a1 n1 c1,.bool s2,.slice a2 n2 c2] 28)).alloc (.cells #[.bool s3,.slice a3 n3 c3,.bool s4,.slice a4 n4 c4] 28)).alloc (.cells #[.bool false,.slice none 0 0,.bool false,.slice none 0 0] 28)=W from HW.o.symm];clear HW;have FT:=qh (fun (w':World) (hb:Below W.heap.size W w')=>ZA s1 a1 n1 c1 o1 s2 a2 n2 c2 o2 w' w.heap.size (by have:=HWS.o;have:=hb.size;omega) (HR1.o.rd.below hb) (by omega) hc1 HF.o.1.1 (HR2.o.rd.below hb) (by omega) hc2 HF.o.1.2);rw[<- HP.o.1.1,<- HP.o.1.2.1,<- HP.o.1.2.2] at FT;have b1c0:=HB1.o.ce 0;have b1c1:=HB1.o.ce 1;have b1c2:=HB1.o.ce 2;have b1c3:=HB1.o.ce 3;have b1f:=HB1.o.fz;have b1l:=HB1.o.lt;go_wp2_with fail
 with_reducible refine(FT.o _ zk).mono ?_
 intro e w1 hh;obtain⟨xa,rfl,hi,hb⟩:=Q8 hh;have HIxa:=qh (hi.up HWS.o);clear b1c0 b1c1 b1c2 b1c3 b1f b1l;clear hh hi FT;have HB1:=qh (HB1.o.bl hb);have HB2:=qh (HB2.o.bl hb);have HB3:=qh (HB3.o.bl hb);have HR1:=qh (HR1.o.below hb);have HR2:=qh (HR2.o.below hb);have HR3:=qh (HR3.o.below hb);have HR4:=qh (HR4.o.below hb);have HWS:=qh (zm HWS.o hb.size);have KG:=qk KG hb;clear hb;have b1c0:=HB1.o.ce 0;have b1c1:=HB1.o.ce 1;have b1c2:=HB1.o.ce 2;have b1c3:=HB1.o.ce 3;have b1f:=HB1.o.fz;have b1l:=HB1.o.lt
 go_upto_region 2 with (fail)
 obtain⟨v2,hV⟩:∃ V,V=(((w1.setCell ⟨w.heap.size,0,none⟩ (.bool (decide (p<0)))).setCell ⟨w.heap.size,1,none⟩ (.slice xa.1 (Ja p.natAbs) xa.2.1)).setCell ⟨w.heap.size,2,none⟩ (.bool (decide (q<0)))).setCell ⟨w.heap.size,3,none⟩ (.slice xa.2.2.1 (Ja q.natAbs) xa.2.2.2):=⟨_,rfl⟩;have HB1:=qh (show Bxs v2 (w.heap.size) 28 [.bool (decide (p<0)),.slice xa.1 (Ja p.natAbs) xa.2.1,.bool (decide (q<0)),.slice xa.2.2.1 (Ja q.natAbs) xa.2.2.2] by rw[hV];exact((((HB1.o).put 0 _).put 1 _).put 2 _).put 3 _);have HB2:=qh (show Bxs v2 (w.heap.size+1) 28 [.bool s3,.slice a3 n3 c3,.bool s4,.slice a4 n4 c4] by rw[hV];exact((((HB2.o).oz).oz).oz).oz);have HB3:=qh (show Bxs v2 (w.heap.size+1+1) 28 [.bool false,.slice none 0 0,.bool false,.slice none 0 0] by rw[hV];exact((((HB3.o).oz).oz).oz).oz)
 have hsin:Sin w.heap.size (w.heap.size+3) w1 v2:=by rw[hV];exact((((Sin.refl _ _ _).sz).sz).sz).sz
 have HR1:=qh (HR1.o.sin hsin);have HR2:=qh (HR2.o.sin hsin);have HR3:=qh (HR3.o.sin hsin);have HR4:=qh (HR4.o.sin hsin);have HIxa:=qh (HIxa.o.sin hsin);clear hsin;have KG:=qh (show Below w.heap.size w v2 by rw[hV];exact((((KG.o).sc).sc).sc).sc);have HWS:=qh (show w.heap.size+3<=v2.heap.size by rw[hV];simp only[World.size_setCell];have:=HWS.o;omega);rw[show(((w1.setCell ⟨w.heap.size,0,none⟩ (.bool (decide (p<0)))).setCell ⟨w.heap.size,1,none⟩ (.slice xa.1 (Ja p.natAbs) xa.2.1)).setCell ⟨w.heap.size,2,none⟩ (.bool (decide (q<0)))).setCell ⟨w.heap.size,3,none⟩ (.slice xa.2.2.1 (Ja q.natAbs) xa.2.2.2)=v2 from hV.symm];clear hV;clear b1c0 b1c1 b1c2 b1c3 b1f b1l;have FT:=qh (fun (w':World) (hb:Below v2.heap.size v2 w')=>ZA s3 a3 n3 c3 o3 s4 a4 n4 c4 o4 w' w.heap.size (by have:=HWS.o;have:=hb.size;omega) (HR3.o.rd.below hb) (by omega) hc3 HF.o.2.1 (HR4.o.rd.below hb) (by omega) hc4 HF.o.2.2);rw[<- HP.o.2.1,<- HP.o.2.2.1,<- HP.o.2.2.2] at FT;have b2c0:=HB2.o.ce 0;have b2c1:=HB2.o.ce 1;have b2c2:=HB2.o.ce 2;have b2c3:=HB2.o.ce 3;have b2f:=HB2.o.fz;have b2l:=HB2.o.lt;go_wp2_with fail
 with_reducible refine(FT.o _ zk).mono ?_
 intro e w3 hh;obtain⟨yb,rfl,hi,hb⟩:=Q8 hh;have HIyb:=qh (hi.up HWS.o);clear b2c0 b2c1 b2c2 b2c3 b2f b2l;clear hh hi FT;have HB1:=qh (HB1.o.bl hb);have HB2:=qh (HB2.o.bl hb);have HB3:=qh (HB3.o.bl hb);have HR1:=qh (HR1.o.below hb);have HR2:=qh (HR2.o.below hb);have HR3:=qh (HR3.o.below hb);have HR4:=qh (HR4.o.below hb);have HIxa:=qh (HIxa.o.below hb);have HWS:=qh (zm HWS.o hb.size);have KG:=qk KG hb;clear hb;have b2c0:=HB2.o.ce 0;have b2c1:=HB2.o.ce 1;have b2c2:=HB2.o.ce 2;have b2c3:=HB2.o.ce 3;have b2f:=HB2.o.fz;have b2l:=HB2.o.lt
 go_upto_region 3 with (fail)
 obtain⟨v4,hV⟩:∃ V,V=(((w3.setCell ⟨w.heap.size+1,0,none⟩ (.bool (decide (r<0)))).setCell ⟨w.heap.size+1,1,none⟩ (.slice yb.1 (Ja r.natAbs) yb.2.1)).setCell ⟨w.heap.size+1,2,none⟩ (.bool (decide (t<0)))).setCell ⟨w.heap.size+1,3,none⟩ (.slice yb.2.2.1 (Ja t.natAbs) yb.2.2.2):=⟨_,rfl⟩;have HB1:=qh (show Bxs v4 (w.heap.size) 28 [.bool (decide (p<0)),.slice xa.1 (Ja p.natAbs) xa.2.1,.bool (decide (q<0)),.slice xa.2.2.1 (Ja q.natAbs) xa.2.2.2] by rw[hV];exact((((HB1.o).oz).oz).oz).oz);have HB2:=qh (show Bxs v4 (w.heap.size+1) 28 [.bool (decide (r<0)),.slice yb.1 (Ja r.natAbs) yb.2.1,.bool (decide (t<0)),.slice yb.2.2.1 (Ja t.natAbs) yb.2.2.2] by rw[hV];exact((((HB2.o).put 0 _).put 1 _).put 2 _).put 3 _);have HB3:=qh (show Bxs v4 (w.heap.size+1+1) 28 [.bool false,.slice none 0 0,.bool false,.slice none 0 0] by rw[hV];exact((((HB3.o).oz).oz).oz).oz)
 have hsin:Sin w.heap.size (w.heap.size+3) w3 v4:=by rw[hV];exact((((Sin.refl _ _ _).sz).sz).sz).sz
 have HR1:=qh (HR1.o.sin hsin);have HR2:=qh (HR2.o.sin hsin);have HR3:=qh (HR3.o.sin hsin);have HR4:=qh (HR4.o.sin hsin);have HIxa:=qh (HIxa.o.sin hsin);have HIyb:=qh (HIyb.o.sin hsin);clear hsin;have KG:=qh (show Below w.heap.size w v4 by rw[hV];exact((((KG.o).sc).sc).sc).sc);have HWS:=qh (show w.heap.size+3<=v4.heap.size by rw[hV];simp only[World.size_setCell];have:=HWS.o;omega);rw[show(((w3.setCell ⟨w.heap.size+1,0,none⟩ (.bool (decide (r<0)))).setCell ⟨w.heap.size+1,1,none⟩ (.slice yb.1 (Ja r.natAbs) yb.2.1)).setCell ⟨w.heap.size+1,2,none⟩ (.bool (decide (t<0)))).setCell ⟨w.heap.size+1,3,none⟩ (.slice yb.2.2.1 (Ja t.natAbs) yb.2.2.2)=v4 from hV.symm];clear hV;clear b2c0 b2c1 b2c2 b2c3 b2f b2l;clear HR1 HR2 HR3 HR4;have MA:=qh (fun (w':World) (hb:Below v4.heap.size v4 w')=>Kn (decide (p<0)) xa.1 (Ja p.natAbs) xa.2.1 (dgi p.natAbs) (decide (r<0)) yb.1 (Ja r.natAbs) yb.2.1 (dgi r.natAbs) w' (HIxa.o.r1.rd.below hb) (by have:=HL.o;omega) HIxa.o.c1 (HIyb.o.r1.rd.below hb) (by have:=HL.o;omega) HIyb.o.c1);rw[Jj,Jj,<- HE.o.1] at MA;have MB:=qh (fun (w':World) (hb:Below v4.heap.size v4 w')=>Kn (decide (q<0)) xa.2.2.1 (Ja q.natAbs) xa.2.2.2 (dgi q.natAbs) (decide (t<0)) yb.2.2.1 (Ja t.natAbs) yb.2.2.2 (dgi t.natAbs) w' (HIxa.o.r2.rd.below hb) (by have:=HL.o;omega) HIxa.o.c2 (HIyb.o.r2.rd.below hb) (by have:=HL.o;omega) HIyb.o.c2)
 rw[Jj,Jj,<- HE.o.2] at MB;have HS:=qh (fun (w':World) (hb:Below v4.heap.size v4 w')=>And.intro (Jf (HB1.o.bl hb)) ((Jf (HB2.o.bl hb))))
 refine Jb 10 (JM [(4,Sp.made (fun x:Option Addr × Nat=>Jw (decide (T1<0)) x.1 (Ja T1.natAbs) x.2) (fun x w'=>Own 160 w' v4.heap.size x.1 (Ja T1.natAbs) x.2 (dgi T1.natAbs))),(9,Sp.made (fun x:Option Addr × Nat=>Jw (decide (Lw<0)) x.1 (Ja Lw.natAbs) x.2) (fun x w'=>Own 160 w' v4.heap.size x.1 (Ja Lw.natAbs) x.2 (dgi Lw.natAbs)))]) (fun w'=>Below v4.heap.size v4 w') (by kernel_rfl) (by kernel_rfl)
  (Jd (Sp.Ji fun x w w' h hb=>h.below hb) (Jd (Sp.Ji fun x w w' h hb=>h.below hb) (Jk))) (fun _ _ h hb=>h.trans (hb.mono h.size)) (zk.drew) ?_
 simp only[zx,zy,zv,zw]
 iterate 4
  (refine Jc rfl rfl ?_ (fun w' hw'=>?_) ?_;rotate_left;· (have hb':=Has.world hw';(obtain⟨k0,k1,k2,k3,k4,k5⟩:=(HS.o _ hb').1;obtain⟨k0,k1,k2,k3,k4,k5⟩:=(HS.o _ hb').2);clear hw';go_simp;try rfl))
  conv=>arg 9;simp only[Act.put,zq0,zq1,zq2]
 (refine Jg rfl rfl (fun w' hw'=>?_) ?_;· (have hb':=Has.world hw';go_simp;((refine(MA.o w' hb').mono ?_;rintro e w'' ⟨za,zb,rfl,ho,hb⟩;exact⟨_,rfl,⟨⟨za,zb,rfl⟩,⟨za,zb,rfl,ho.mono hb'.size⟩⟩,hb⟩))))
 rintro _ ⟨y4,rfl⟩
 conv=>arg 9;simp only[Act.put,zq0,zq1,zq2]
 iterate 4
  (refine Jc rfl rfl ?_ (fun w' hw'=>?_) ?_;rotate_left;· (have hb':=Has.world hw';(obtain⟨k0,k1,k2,k3,k4,k5⟩:=(HS.o _ hb').1;obtain⟨k0,k1,k2,k3,k4,k5⟩:=(HS.o _ hb').2);clear hw';go_simp;try rfl))
  conv=>arg 9;simp only[Act.put,zq0,zq1,zq2]
 (refine Jg rfl rfl (fun w' hw'=>?_) ?_;· (have hb':=Has.world hw';go_simp;((refine(MB.o w' hb').mono ?_;rintro e w'' ⟨za,zb,rfl,ho,hb⟩;exact⟨_,rfl,⟨⟨za,zb,rfl⟩,⟨za,zb,rfl,ho.mono hb'.size⟩⟩,hb⟩))))
 rintro _ ⟨y9,rfl⟩
 conv=>arg 9;simp only[Act.put,zq0,zq1,zq2]
 refine Jn (fun w5 hb hF=>?_);have HO4:=qh (Own.mono (J6 (T:=160) (x:=y4) (b:=v4.heap.size) (s:=decide (T1<0)) (L:=Ja T1.natAbs) (o:=dgi T1.natAbs) (hF 4)) HWS.o);have HO9:=qh (Own.mono (J6 (T:=160) (x:=y9) (b:=v4.heap.size) (s:=decide (Lw<0)) (L:=Ja Lw.natAbs) (o:=dgi Lw.natAbs) (hF 9)) HWS.o);clear hF HS;have HB1:=qh (HB1.o.bl hb);have HB2:=qh (HB2.o.bl hb);have HB3:=qh (HB3.o.bl hb);have HIxa:=qh (HIxa.o.below hb);have HIyb:=qh (HIyb.o.below hb);have HWS:=qh (zm HWS.o hb.size);have KG:=qk KG hb;clear hb;clear MA MB;have LO:=qh (fun (w':World) (hb:Below w5.heap.size w5 w')=>Yw T1 Lw y4.1 y9.1 y4.2 y9.2 w' (HO4.o.rd.below hb) (by have:=HM.o;omega) HO4.o.le (HO9.o.rd.below hb) (by have:=HM.o;omega) HO9.o.le HZ.o.2);rw[HZ.o.1,<- HZE.o.1,<- HZE.o.2] at LO;have b3c0:=HB3.o.ce 0;have b3c1:=HB3.o.ce 1;have b3c2:=HB3.o.ce 2;have b3c3:=HB3.o.ce 3;have b3f:=HB3.o.fz;have b3l:=HB3.o.lt;go_wp2_with fail
 with_reducible refine(LO.o _ zk).mono ?_
 rintro e w6 ⟨r1,e1,r2,e2,rfl,ho1,ho2,hb⟩;have HQ1:=qh (ho1.mono HWS.o);have HQ2:=qh (ho2.mono HWS.o);clear ho1 ho2;clear b3c0 b3c1 b3c2 b3c3 b3f b3l;have HB1:=qh (HB1.o.bl hb);have HB2:=qh (HB2.o.bl hb);have HB3:=qh (HB3.o.bl hb);have HIxa:=qh (HIxa.o.below hb);have HIyb:=qh (HIyb.o.below hb);have HO4:=qh (HO4.o.below hb);have HO9:=qh (HO9.o.below hb);have HWS:=qh (zm HWS.o hb.size);have KG:=qk KG hb;clear hb;clear LO;have b3c0:=HB3.o.ce 0;have b3c1:=HB3.o.ce 1;have b3c2:=HB3.o.ce 2;have b3c3:=HB3.o.ce 3;have b3f:=HB3.o.fz;have b3l:=HB3.o.lt;go_wp2_with fail
 have hws:=HWS.o;refine bodyPost_ret (Je rfl _ _ _ _ _ _ _ rfl (((((HB3.o).put 0 _).put 1 _).put 2 _).put 3 _) Tryz.underlying28 rfl (by kernel_rfl)) rfl ?_;refine⟨r1,e1,r2,e2,rfl,?_,?_,?_⟩
 ·exact(((((HQ1.o).oz).oz).oz).oz).mono (by omega)
 ·exact(((((HQ2.o).oz).oz).oz).oz).mono (by omega)
 ·exact((((KG.o).sc).sc).sc).sc
theorem QP (t l:Int) (hl:l≠0):Ja (Rat.divInt t l).num.natAbs<=Ja t.natAbs/\Ja ((Rat.divInt t l).den:Int).natAbs<=Ja l.natAbs:=by
 rw[<- YV t l hl,<- YW t l hl];exact⟨JN (Int.natAbs_ediv_le_natAbs _ _),JN (Int.natAbs_ediv_le_natAbs _ _)⟩
theorem add_len {x y:Rat} {k:Nat} (h1:Ja x.num.natAbs<=k) (h2:Ja (x.den:Int).natAbs<=k) (h3:Ja y.num.natAbs<=k) (h4:Ja (y.den:Int).natAbs<=k):Ja (x+y).num.natAbs<=2*k+1/\Ja ((x+y).den:Int).natAbs<=2*k:=by
 rw[<- jah x y];have h:=QP (x.num*(y.den:Int)+y.num*(x.den:Int)) ((x.den:Int)*(y.den:Int)) (Int.ne_of_gt (Int.mul_pos (Qw x) (Qw y)));have hl1:=Jq x.num.natAbs (y.den:Int).natAbs;have hl2:=Jq y.num.natAbs (x.den:Int).natAbs;have hl3:=Jq (x.den:Int).natAbs (y.den:Int).natAbs;rw[<- Int.natAbs_mul] at hl1 hl2 hl3;have hl5:=VA (x.num*(y.den:Int)) (y.num*(x.den:Int));omega
theorem mul_len {x y:Rat} {k:Nat} (h1:Ja x.num.natAbs<=k) (h2:Ja (x.den:Int).natAbs<=k) (h3:Ja y.num.natAbs<=k) (h4:Ja (y.den:Int).natAbs<=k):Ja (x*y).num.natAbs<=2*k/\Ja ((x*y).den:Int).natAbs<=2*k:=by
 have e:Rat.divInt (x.num*y.num) ((x.den:Int)*(y.den:Int))=x*y:=by rw[Rat.mul_def',<- Rat.divInt_ofNat,Int.natCast_mul]
 rw[<- e];have h:=QP (x.num*y.num) ((x.den:Int)*(y.den:Int)) (Int.ne_of_gt (Int.mul_pos (Qw x) (Qw y)));have hl1:=Jq x.num.natAbs y.num.natAbs;have hl3:=Jq (x.den:Int).natAbs (y.den:Int).natAbs;rw[<- Int.natAbs_mul] at hl1 hl3;omega
theorem div_len {x y:Rat} {k:Nat} (hy:y≠0) (h1:Ja x.num.natAbs<=k) (h2:Ja (x.den:Int).natAbs<=k) (h3:Ja y.num.natAbs<=k) (h4:Ja (y.den:Int).natAbs<=k):Ja (x/y).num.natAbs<=2*k/\Ja ((x/y).den:Int).natAbs<=2*k:=by
 rw[<- jai x y]
 have h:=QP (x.num*(y.den:Int)) (y.num*(x.den:Int)) (fun h=>by
  rcases Int.mul_eq_zero.1 h with h | h
  ·exact hy (Rat.num_eq_zero.1 h)
  ·exact Int.ne_of_gt (Qw x) h)
 have hl1:=Jq x.num.natAbs (y.den:Int).natAbs;have hl2:=Jq y.num.natAbs (x.den:Int).natAbs;rw[<- Int.natAbs_mul] at hl1 hl2;omega
open Classical in
theorem rfdiv_ok (s1:Bool) (a1:Option Addr) (n1 c1:Nat) (o1:Nat->Int) (s2:Bool) (a2:Option Addr) (n2 c2:Nat) (o2:Nat->Int) (s3:Bool) (a3:Option Addr) (n3 c3:Nat) (o3:Nat->Int) (s4:Bool) (a4:Option Addr) (n4 c4:Nat) (o4:Nat->Int) (w:World) (x y:Rat) (hx:x=Xh s1 n1 o1 s2 n2 o2) (hy:y=Xh s3 n3 o3 s4 n4 o4) (h1:Rd w a1 n1 o1) (hn1:n1<=900000) (hc1:n1<=c1) (h2:Rd w a2 n2 o2) (hn2:n2<=900000) (hc2:n2<=c2) (h3:Rd w a3 n3 o3) (hn3:n3<=900000) (hc3:n3<=c3) (h4:Rd w a4 n4 o4) (hn4:n4<=900000) (hc4:n4<=c4) (hk1:okF s1 n1 o1 s2 n2 o2) (hk2:okF s3 n3 o3 s4 n4 o4) (hz:y≠0) :
  Calls Tryz.prog 147 #[JU s1 a1 n1 c1 s2 a2 n2 c2,JU s3 a3 n3 c3 s4 a4 n4 c4] w (MakeF w 0 (x/y).num ((x/y).den:Int)):=by
 have hfar:∀ {a:Option Addr} {n:Nat} {o:Nat->Int},Rd w a n o->0<n->∀ p,a=some p->p.block<w.heap.size:=fun h h0 p hp=>by
  obtain⟨b,off,e,hc⟩:=h.cells h0
  rw[e] at hp;cases hp
  exact block_lt_of_cell (hc 0 h0)
 have l1:=JV (s1:=s1) (s2:=s2) h1.rng h2.rng;rw[<- hx] at l1;have l2:=JV (s1:=s3) (s2:=s4) h3.rng h4.rng;rw[<- hy] at l2;obtain⟨p,hp⟩:∃ p,p=x.num:=⟨_,rfl⟩;obtain⟨q,hq⟩:∃ q:Int,q=(x.den:Int):=⟨_,rfl⟩;rw[<- hp,<- hq] at l1;obtain⟨r,hr⟩:∃ r,r=y.num:=⟨_,rfl⟩;obtain⟨t,ht⟩:∃ t:Int,t=(y.den:Int):=⟨_,rfl⟩;rw[<- hr,<- ht] at l2;have HL:=qh (show(Ja p.natAbs<=900001/\Ja q.natAbs<=900001)/\Ja r.natAbs<=900001/\Ja t.natAbs<=900001 by omega);have HP:=qh (And.intro (And.intro hx (And.intro hp hq)) (And.intro hy (And.intro hr ht)));have HF:=qh (And.intro (And.intro (hfar h1) (hfar h2)) (And.intro (hfar h3) (hfar h4)))
 have HV:=qh (show Jo s1 n1 o1=p/\Jo s2 n2 o2=q/\Jo s3 n3 o3=r/\Jo s4 n4 o4=t by
  rw[hp,hq,hr,ht,hx,hy];exact⟨(Xy hk1).1.symm,(Xy hk1).2.symm,(Xy hk2).1.symm,(Xy hk2).2.symm⟩)
 have HK:=qh (And.intro hk1 hk2);clear hk1 hk2;obtain⟨cs,hcs⟩:∃ cs,cs=Js r 0:=⟨_,rfl⟩;have HCS:=qh hcs;have hl1:=Jq p.natAbs t.natAbs;have hl2:=Jq r.natAbs q.natAbs;have hl3:=Jq q.natAbs t.natAbs;have hl4:=Jq p.natAbs r.natAbs;rw[<- Int.natAbs_mul] at hl1 hl2 hl3 hl4
 have hz1:r≠0:=fun h=>hz (Rat.num_eq_zero.1 (by rw[<- hr];exact h))
 have hc0:(cs==0)=false:=by rw[hcs];simpa using fun h=>hz1 ((sign_zero _).1 h)
 have hc0':decide (cs=0)=false:=by simpa using hc0
 obtain⟨T1,hT1⟩:∃ T1,T1=p*t:=⟨_,rfl⟩;obtain⟨T2,hT2⟩:∃ T2,T2=r*q:=⟨_,rfl⟩;have HE:=qh (And.intro hT1 hT2);rw[<- hT1] at hl1;rw[<- hT2] at hl2;have HM:=qh (show Ja T1.natAbs<=2000002/\Ja T2.natAbs<=2000002 by omega);obtain⟨z,hzz⟩:∃ z,z=x/y:=⟨_,rfl⟩;have HZ:=qh (show Rat.divInt T1 T2=z/\T2≠0 from⟨by rw[hT1,hT2,hp,hq,hr,ht,hzz];exact jai x y,by rw[hT2,hq];exact fun h=>(Int.mul_eq_zero.1 h).elim hz1 (Int.ne_of_gt (Qw x))⟩);rw[<- hzz];obtain⟨zp,hzp⟩:∃ zp,zp=z.num:=⟨_,rfl⟩;obtain⟨zq,hzq⟩:∃ zq:Int,zq=(z.den:Int):=⟨_,rfl⟩;have HZE:=qh (And.intro hzp hzq);rw[<- hzp,<- hzq];clear hT1 hT2 hz1 hz hzz hzp hzq hl1 hl2 hl3 hl4 hcs;have HB1:=qh (((Bxs.new (w) 28 [.bool s1,.slice a1 n1 c1,.bool s2,.slice a2 n2 c2]).alloc (.cells #[.bool s3,.slice a3 n3 c3,.bool s4,.slice a4 n4 c4] 28)).alloc (.cells #[.bool false,.slice none 0 0,.bool false,.slice none 0 0] 28));have HB2:=qh ((Bxs.new (w.alloc (.cells #[.bool s1,.slice a1 n1 c1,.bool s2,.slice a2 n2 c2] 28)) 28 [.bool s3,.slice a3 n3 c3,.bool s4,.slice a4 n4 c4]).alloc (.cells #[.bool false,.slice none 0 0,.bool false,.slice none 0 0] 28));have HB3:=qh (Bxs.new ((w.alloc (.cells #[.bool s1,.slice a1 n1 c1,.bool s2,.slice a2 n2 c2] 28)).alloc (.cells #[.bool s3,.slice a3 n3 c3,.bool s4,.slice a4 n4 c4] 28)) 28 [.bool false,.slice none 0 0,.bool false,.slice none 0 0]);obtain⟨W,hW⟩:∃ W,W=((w.alloc (.cells #[.bool s1,.slice a1 n1 c1,.bool s2,.slice a2 n2 c2] 28)).alloc (.cells #[.bool s3,.slice a3 n3 c3,.bool s4,.slice a4 n4 c4] 28)).alloc (.cells #[.bool false,.slice none 0 0,.bool false,.slice none 0 0] 28):=⟨_,rfl⟩
 have KG:=qh (show Below w.heap.size w W by rw[hW];exact((zk.alloc zj _).alloc (by go_size) _).alloc (by go_size) _);have HWS:=qh (show w.heap.size+3<=W.heap.size by rw[hW];simp only[World.size_alloc];omega);have HB1:=qh (show Bxs W (w.heap.size) 28 [.bool s1,.slice a1 n1 c1,.bool s2,.slice a2 n2 c2] by have h:=HB1.o;rw[hW];exact h);have HB2:=qh (show Bxs W (w.heap.size+1) 28 [.bool s3,.slice a3 n3 c3,.bool s4,.slice a4 n4 c4] by have h:=HB2.o;simp only[World.size_alloc] at h;rw[hW];exact h);have HB3:=qh (show Bxs W (w.heap.size+1+1) 28 [.bool false,.slice none 0 0,.bool false,.slice none 0 0] by have h:=HB3.o;simp only[World.size_alloc] at h;rw[hW];exact h);have HW:=qh hW;clear hW;have HR1:=qh (show RdS W w.heap.size (w.heap.size+3) a1 n1 o1 from⟨h1.below KG.o,fun h0 p hp=>Or.inl (hfar h1 h0 p hp)⟩);have HR2:=qh (show RdS W w.heap.size (w.heap.size+3) a2 n2 o2 from⟨h2.below KG.o,fun h0 p hp=>Or.inl (hfar h2 h0 p hp)⟩);have HR3:=qh (show RdS W w.heap.size (w.heap.size+3) a3 n3 o3 from⟨h3.below KG.o,fun h0 p hp=>Or.inl (hfar h3 h0 p hp)⟩);have HR4:=qh (show RdS W w.heap.size (w.heap.size+3) a4 n4 o4 from⟨h4.below KG.o,fun h0 p hp=>Or.inl (hfar h4 h0 p hp)⟩);clear hx hp hq l1 h1 h2 hfar hy hr ht l2 h3 h4;go_enter Tryz.func147,Tryz.ntmps147
 go_upto_region 1 with (fail)
 rw[show((w.alloc (.cells #[.bool s1,.slice a1 n1 c1,.bool s2,.slice a2 n2 c2] 28)).alloc (.cells #[.bool s3,.slice a3 n3 c3,.bool s4,.slice a4 n4 c4] 28)).alloc (.cells #[.bool false,.slice none 0 0,.bool false,.slice none 0 0] 28)=W from HW.o.symm];clear HW;have CK:=qh (fun (w':World) (hb:Below W.heap.size W w')=>QR s1 a1 n1 c1 o1 s2 a2 n2 c2 o2 w' (HR1.o.rd.below hb) (by omega) hc1 (HR2.o.rd.below hb) (by omega) hc2);rw[decide_eq_true HK.o.1] at CK;have b1c0:=HB1.o.ce 0;have b1c1:=HB1.o.ce 1;have b1c2:=HB1.o.ce 2;have b1c3:=HB1.o.ce 3;have b1f:=HB1.o.fz;have b1l:=HB1.o.lt;go_wp2_with fail
 with_reducible refine(CK.o _ zk).mono ?_
 rintro e w1 ⟨rfl,hb⟩;clear b1c0 b1c1 b1c2 b1c3 b1f b1l;have HB1:=qh (HB1.o.bl hb);have HB2:=qh (HB2.o.bl hb);have HB3:=qh (HB3.o.bl hb);have HR1:=qh (HR1.o.below hb);have HR2:=qh (HR2.o.below hb);have HR3:=qh (HR3.o.below hb);have HR4:=qh (HR4.o.below hb);have HWS:=qh (zm HWS.o hb.size);have KG:=qk KG hb;clear hb;clear CK;have CK:=qh (fun (w':World) (hb:Below w1.heap.size w1 w')=>QR s3 a3 n3 c3 o3 s4 a4 n4 c4 o4 w' (HR3.o.rd.below hb) (by omega) hc3 (HR4.o.rd.below hb) (by omega) hc4);rw[decide_eq_true HK.o.2] at CK;have b2c0:=HB2.o.ce 0;have b2c1:=HB2.o.ce 1;have b2c2:=HB2.o.ce 2;have b2c3:=HB2.o.ce 3;have b2f:=HB2.o.fz;have b2l:=HB2.o.lt;go_wp2_with fail
 with_reducible refine(CK.o _ zk).mono ?_
 rintro e w2 ⟨rfl,hb⟩;clear b2c0 b2c1 b2c2 b2c3 b2f b2l;have HB1:=qh (HB1.o.bl hb);have HB2:=qh (HB2.o.bl hb);have HB3:=qh (HB3.o.bl hb);have HR1:=qh (HR1.o.below hb);have HR2:=qh (HR2.o.below hb);have HR3:=qh (HR3.o.below hb);have HR4:=qh (HR4.o.below hb);have HWS:=qh (zm HWS.o hb.size);have KG:=qk KG hb;clear hb;clear CK;have SG:=qh (fun (w':World) (hb:Below w2.heap.size w2 w')=>ZJ s3 a3 n3 c3 o3 w' (HR3.o.rd.below hb) (by omega) hc3);rw[HV.o.2.2.1,<- HCS.o] at SG;have b2c0:=HB2.o.ce 0;have b2c1:=HB2.o.ce 1;have b2c2:=HB2.o.ce 2;have b2c3:=HB2.o.ce 3;have b2f:=HB2.o.fz;have b2l:=HB2.o.lt;go_wp2_with fail
 with_reducible refine(SG.o _ zk).mono ?_
 rintro e w3 ⟨rfl,hb⟩;clear b2c0 b2c1 b2c2 b2c3 b2f b2l;have HB1:=qh (HB1.o.bl hb);have HB2:=qh (HB2.o.bl hb);have HB3:=qh (HB3.o.bl hb);have HR1:=qh (HR1.o.below hb);have HR2:=qh (HR2.o.below hb);have HR3:=qh (HR3.o.below hb);have HR4:=qh (HR4.o.below hb);have HWS:=qh (zm HWS.o hb.size);have KG:=qk KG hb;clear hb;clear SG;have MA:=qh (fun (w':World) (hb:Below w3.heap.size w3 w')=>Kn s1 a1 n1 c1 o1 s4 a4 n4 c4 o4 w' (HR1.o.rd.below hb) (by omega) hc1 (HR4.o.rd.below hb) (by omega) hc4);rw[HV.o.1,HV.o.2.2.2,<- HE.o.1] at MA;have MB:=qh (fun (w':World) (hb:Below w3.heap.size w3 w')=>Kn s3 a3 n3 c3 o3 s2 a2 n2 c2 o2 w' (HR3.o.rd.below hb) (by omega) hc3 (HR2.o.rd.below hb) (by omega) hc2);rw[HV.o.2.2.1,HV.o.2.1,<- HE.o.2] at MB
 go_upto_region 5 with (fail)
 have HS:=qh (fun (w':World) (hb:Below w3.heap.size w3 w')=>And.intro (Jf (HB1.o.bl hb)) ((Jf (HB2.o.bl hb))))
 refine Jb 10 (JM [(4,Sp.made (fun x:Option Addr × Nat=>Jw (decide (T1<0)) x.1 (Ja T1.natAbs) x.2) (fun x w'=>Own 160 w' w3.heap.size x.1 (Ja T1.natAbs) x.2 (dgi T1.natAbs))),(9,Sp.made (fun x:Option Addr × Nat=>Jw (decide (T2<0)) x.1 (Ja T2.natAbs) x.2) (fun x w'=>Own 160 w' w3.heap.size x.1 (Ja T2.natAbs) x.2 (dgi T2.natAbs)))]) (fun w'=>Below w3.heap.size w3 w') (by kernel_rfl) (by kernel_rfl)
  (Jd (Sp.Ji fun x w w' h hb=>h.below hb) (Jd (Sp.Ji fun x w w' h hb=>h.below hb) (Jk))) (fun _ _ h hb=>h.trans (hb.mono h.size)) (zk.drew) ?_
 simp only[zx,zy,zv,zw]
 iterate 4
  (refine Jc rfl rfl ?_ (fun w' hw'=>?_) ?_;rotate_left;· (have hb':=Has.world hw';(obtain⟨k0,k1,k2,k3,k4,k5⟩:=(HS.o _ hb').1;obtain⟨k0,k1,k2,k3,k4,k5⟩:=(HS.o _ hb').2);clear hw';go_simp;try rfl))
  conv=>arg 9;simp only[Act.put,zq0,zq1,zq2]
 (refine Jg rfl rfl (fun w' hw'=>?_) ?_;· (have hb':=Has.world hw';go_simp;((refine(MA.o w' hb').mono ?_;rintro e w'' ⟨za,zb,rfl,ho,hb⟩;exact⟨_,rfl,⟨⟨za,zb,rfl⟩,⟨za,zb,rfl,ho.mono hb'.size⟩⟩,hb⟩))))
 rintro _ ⟨y4,rfl⟩
 conv=>arg 9;simp only[Act.put,zq0,zq1,zq2]
 iterate 4
  (refine Jc rfl rfl ?_ (fun w' hw'=>?_) ?_;rotate_left;· (have hb':=Has.world hw';(obtain⟨k0,k1,k2,k3,k4,k5⟩:=(HS.o _ hb').2;obtain⟨k0,k1,k2,k3,k4,k5⟩:=(HS.o _ hb').1);clear hw';go_simp;try rfl))
  conv=>arg 9;simp only[Act.put,zq0,zq1,zq2]
 (refine Jg rfl rfl (fun w' hw'=>?_) ?_;· (have hb':=Has.world hw';go_simp;((refine(MB.o w' hb').mono ?_;rintro e w'' ⟨za,zb,rfl,ho,hb⟩;exact⟨_,rfl,⟨⟨za,zb,rfl⟩,⟨za,zb,rfl,ho.mono hb'.size⟩⟩,hb⟩))))
 rintro _ ⟨y9,rfl⟩
 conv=>arg 9;simp only[Act.put,zq0,zq1,zq2]
 refine Jn (fun w4 hb hF=>?_);have HO4:=qh (Own.mono (J6 (T:=160) (x:=y4) (b:=w3.heap.size) (s:=decide (T1<0)) (L:=Ja T1.natAbs) (o:=dgi T1.natAbs) (hF 4)) HWS.o);have HO9:=qh (Own.mono (J6 (T:=160) (x:=y9) (b:=w3.heap.size) (s:=decide (T2<0)) (L:=Ja T2.natAbs) (o:=dgi T2.natAbs) (hF 9)) HWS.o);clear hF HS;have HB1:=qh (HB1.o.bl hb);have HB2:=qh (HB2.o.bl hb);have HB3:=qh (HB3.o.bl hb);have HR1:=qh (HR1.o.below hb);have HR2:=qh (HR2.o.below hb);have HR3:=qh (HR3.o.below hb);have HR4:=qh (HR4.o.below hb);have HWS:=qh (zm HWS.o hb.size);have KG:=qk KG hb;clear hb;clear MA MB;clear HR1 HR2 HR3 HR4;have LO:=qh (fun (w':World) (hb:Below w4.heap.size w4 w')=>Yw T1 T2 y4.1 y9.1 y4.2 y9.2 w' (HO4.o.rd.below hb) (by have:=HM.o;omega) HO4.o.le (HO9.o.rd.below hb) (by have:=HM.o;omega) HO9.o.le HZ.o.2);rw[HZ.o.1,<- HZE.o.1,<- HZE.o.2] at LO;have b3c0:=HB3.o.ce 0;have b3c1:=HB3.o.ce 1;have b3c2:=HB3.o.ce 2;have b3c3:=HB3.o.ce 3;have b3f:=HB3.o.fz;have b3l:=HB3.o.lt;go_wp2_with fail
 with_reducible refine(LO.o _ zk).mono ?_
 rintro e w5 ⟨r1,e1,r2,e2,rfl,ho1,ho2,hb⟩;have HQ1:=qh (ho1.mono HWS.o);have HQ2:=qh (ho2.mono HWS.o);clear ho1 ho2;clear b3c0 b3c1 b3c2 b3c3 b3f b3l;have HB1:=qh (HB1.o.bl hb);have HB2:=qh (HB2.o.bl hb);have HB3:=qh (HB3.o.bl hb);have HO4:=qh (HO4.o.below hb);have HO9:=qh (HO9.o.below hb);have HWS:=qh (zm HWS.o hb.size);have KG:=qk KG hb;clear hb;clear LO;have b3c0:=HB3.o.ce 0;have b3c1:=HB3.o.ce 1;have b3c2:=HB3.o.ce 2;have b3c3:=HB3.o.ce 3;have b3f:=HB3.o.fz;have b3l:=HB3.o.lt;go_wp2_with fail
 have hws:=HWS.o;refine bodyPost_ret (Qj rfl _ _ _ _ _ _ _ rfl (((((HB3.o).put 0 _).put 1 _).put 2 _).put 3 _) Tryz.underlying28 rfl (by kernel_rfl)) rfl ?_;refine⟨r1,e1,r2,e2,rfl,?_,?_,?_⟩
 ·exact(((((HQ1.o).oz).oz).oz).oz).mono (by omega)
 ·exact(((((HQ2.o).oz).oz).oz).oz).mono (by omega)
 ·exact((((KG.o).sc).sc).sc).sc
end Limb
end Go.Proofs.YtgkkbkoiaccmfaaGreatDoor
