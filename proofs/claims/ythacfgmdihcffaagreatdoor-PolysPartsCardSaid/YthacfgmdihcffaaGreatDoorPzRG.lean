/-
  The walks of a Book's keepLimb and keepTerm, where it holds both.
-/
import Derived.Test.YthacfgmdihcffaaGreatDoorPzRF
import Derived.RegionTactic
import Derived.Deep.CutBlock
set_option linter.unusedSimpArgs false
set_option linter.unusedVariables false
set_option maxHeartbeats 16000000
set_option maxRecDepth 100000
namespace Go.Proofs.YthacfgmdihcffaaGreatDoor
namespace Limb
open Go.RowKit Go.Sort Go.Fresh
theorem Bx.new4 (w:World) (p q r:Obj) (t:TypeId) (x y:Value):Bx ((((w.alloc p).alloc q).alloc r).alloc (.cells #[x,y] t)) (w.heap.size+1+1+1) t x y:=by
 have h:=Bx.new (((w.alloc p).alloc q).alloc r) t x y;simp only[World.size_alloc] at h;exact h
theorem results_cct {P:Program} {fn:Func} {p q t:Tmp} {ty:TypeId} (h:fn.results=#[.cell p ty,.cell q ty,.tmp t]) (tmps:Array Value) (w:World) (g g2:Nat) (ta tb:TypeId) (cs cs2:Array Value) (fr fr2:Nat × Nat) (d:TypeDesc)
  (hp:tmps.getD p undef=.pointer (some ⟨g,0,none⟩)) (hg:w.heap[g]?=some (.cells cs ta fr)) (hq:tmps.getD q undef=.pointer (some ⟨g2,0,none⟩)) (hg2:w.heap[g2]?=some (.cells cs2 tb fr2))
  (hu:P.underlying ty=some d) (hd:(match d with | .struct _ | .array _ _=>true | _=>false)=true) (hi:(P.info? ty).map (·.size)=some cs.size) (hi2:(P.info? ty).map (·.size)=some cs2.size) :
  (results fn tmps).run P w=.ok (.tuple #[.agg cs,.agg cs2,tmps.getD t undef]) w:=by
 have hp':tmps[p]?.getD undef=.pointer (some ⟨g,0,none⟩):=by simpa using hp
 have hq':tmps[q]?.getD undef=.pointer (some ⟨g2,0,none⟩):=by simpa using hq
 simp[results,h,hp',hq',asAddr,run_loadVar_row w g ta ty cs fr d hg hu hd hi,run_loadVar_row w g2 tb ty cs2 fr2 d hg2 hu hd hi2]
def Apart2 (a b:Option Addr):Prop:=∀ p q,a=some p->b=some q->p.block≠q.block
def DivR (w:World) (x y:Int) (e:Ending) (w':World):Prop :=
 ∃ aq ar,e=.returned (.tuple #[numV (decide (x/y<0)) aq (lenB (x/y).natAbs) (lenB (x/y).natAbs),numV (decide (x%y<0)) ar (lenB (x%y).natAbs) (lenB (x%y).natAbs),.int .i64 0]) /\
  Own 128 w' w.heap.size aq (lenB (x/y).natAbs) (lenB (x/y).natAbs) (dgi (x/y).natAbs)/\Own 128 w' w.heap.size ar (lenB (x%y).natAbs) (lenB (x%y).natAbs) (dgi (x%y).natAbs) /\
  Apart2 aq ar/\(aq=none->lenB (x/y).natAbs=0)/\(ar=none->lenB (x%y).natAbs=0)/\Below w.heap.size w w'
structure AmtO (w:World) (lo:Nat) (a:Option Addr) (K c N:Nat) (o:Nat->Int):Prop where
 own:Own 128 w lo a K c o
 dig:Dig o K
 sum:sumB o K=(N:Int)
 le:K<=100000001
 nil:a=none->c=0
theorem AmtO.below {w w':World} {lo:Nat} {a:Option Addr} {K c N:Nat} {o:Nat->Int} (h:AmtO w lo a K c N o) (hb:Below w.heap.size w w'):AmtO w' lo a K c N o:=⟨h.own.below hb,h.dig,h.sum,h.le,h.nil⟩
theorem AmtO.other {w:World} {lo:Nat} {a:Option Addr} {K c N:Nat} {o:Nat->Int} (h:AmtO w lo a K c N o) {p:Addr} (hp:p.block<lo) (v:Value):AmtO (w.setCell p v) lo a K c N o:=⟨h.own.other hp v,h.dig,h.sum,h.le,h.nil⟩
theorem AmtO.oz {w:World} {lo:Nat} {a:Option Addr} {K c N:Nat} {o:Nat->Int} (h:AmtO w lo a K c N o) {p:Addr} {v:Value} (hp:p.block<lo:=by dsimp only;omega):AmtO (w.setCell p v) lo a K c N o:=h.other hp v
theorem AmtO.num {w:World} {lo:Nat} {a:Option Addr} {K c N:Nat} {o:Nat->Int} (h:AmtO w lo a K c N o):Own 128 w lo a (lenB N) (lenB N) (dgi N):=by
 have hs:(sumB o K).toNat=N:=by rw[h.sum];omega
 have hl:=lenB_le_of h.dig;rw[hs] at hl
 refine h.own.cut hl fun i hi=>?_
 have:=dg_sumB h.dig i (by omega);rw[hs] at this;exact this.symm
theorem AmtO.none {w:World} {lo:Nat} {a:Option Addr} {K c N:Nat} {o:Nat->Int} (h:AmtO w lo a K c N o) (ha:a=none):lenB N=0:=by
 have hs:(sumB o K).toNat=N:=by rw[h.sum];omega
 have hl:=lenB_le_of h.dig;rw[hs] at hl;have h1:=h.nil ha;have h2:=h.own.le;omega
theorem cut_amt (s sB:Bool) (a:Option Addr) (K c N lo:Nat) (o:Nat->Int) (w:World) (h:AmtO w lo a K c N o) (hB:(s&&decide (0<lenB N))=sB) :
  Calls Tryz.prog 166 #[.bool s,.slice a K c] w fun e w'=>e=.returned (numV sB a (lenB N) (lenB N))/\Own 128 w' lo a (lenB N) (lenB N) (dgi N)/\Below w.heap.size w w':=by
 have hC:=cut_any s a K c o w h.own.rd h.dig (by have:=h.le;omega) h.own.le h.nil
 have hs:(sumB o K).toNat=N:=by rw[h.sum];omega
 rw[hs,hB] at hC;refine hC.mono ?_;rintro e w' ⟨rfl,hb⟩;refine⟨rfl,(h.own.below hb).cut ?_ ?_,hb⟩
 ·rw[<- hs];exact lenB_le_of h.dig
 ·intro i hi;have:=dg_sumB h.dig i (by have:=lenB_le_of h.dig;rw[hs] at this;omega);rw[hs] at this;exact this.symm
theorem short_of {g n b:Nat} {A R:Int} {w:World} (h:∃ x:Nat,Value.tuple #[.slice (some ⟨g,0,none⟩) n n,.int .u32 R]=.tuple #[.slice (some ⟨x,0,none⟩) n n,.int .u32 R]/\∃ p,Dig p n/\sumB p n=A/\Own 128 w b (some ⟨x,0,none⟩) n n p) :
  ∃ p,Dig p n/\sumB p n=A/\Own 128 w b (some ⟨g,0,none⟩) n n p:=by
 obtain⟨x,e,h⟩:=h;simp only[Value.tuple.injEq,Array.mk.injEq,List.cons.injEq,Value.slice.injEq,Option.some.injEq,Addr.mk.injEq,and_true] at e;rw[e];exact h
open Classical in
theorem div_ok (z1 z2:Int) (a1 a2:Option Addr) (c1 c2:Nat) (w:World) (h1:Rd w a1 (lenB z1.natAbs) (dgi z1.natAbs)) (hn1:lenB z1.natAbs<=10000000) (hc1:lenB z1.natAbs<=c1) (h2:Rd w a2 (lenB z2.natAbs) (dgi z2.natAbs)) (hn2:lenB z2.natAbs<=10000000) (hc2:lenB z2.natAbs<=c2) (hz:z2≠0) :
  Calls Tryz.prog 203 #[numV (decide (z1<0)) a1 (lenB z1.natAbs) c1,numV (decide (z2<0)) a2 (lenB z2.natAbs) c2] w (DivR w z1 z2):=by
 obtain⟨N1,hN1⟩:∃ N1,N1=lenB z1.natAbs:=⟨_,rfl⟩;obtain⟨N2,hN2⟩:∃ N2,N2=lenB z2.natAbs:=⟨_,rfl⟩;obtain⟨s1,hs1⟩:∃ s1,s1=decide (z1<0):=⟨_,rfl⟩;obtain⟨s2,hs2⟩:∃ s2,s2=decide (z2<0):=⟨_,rfl⟩
 have hpos:0<N2:=by rw[hN2];exact pos_of_len.2 (by omega)
 have ok1:=canon_ok z1;have ok2:=canon_ok z2;have HZ:=qh hz;rw[<- hN1,<- hs1] at ok1;rw[<- hN2,<- hs2] at ok2;rw[<- hN1] at h1 hn1 hc1 ⊢;rw[<- hN2] at h2 hn2 hc2 ⊢;rw[<- hs1,<- hs2];have CK1:=qh (fun (w':World) (hb:Below w.heap.size w w')=>check_any s1 a1 N1 c1 (dgi z1.natAbs) w' (h1.below hb) (by omega));have CK2:=qh (fun (w':World) (hb:Below w.heap.size w w')=>check_any s2 a2 N2 c2 (dgi z2.natAbs) w' (h2.below hb) (by omega));rw[decide_eq_true ok1] at CK1;rw[decide_eq_true ok2] at CK2;have HR:=qh (And.intro h1 h2);have HE:=qh (And.intro (And.intro hN1 hN2) (And.intro hs1 hs2));have B1:=((((Bx.new w 30 (.bool s1) (.slice a1 N1 c1)).alloc (.cells #[.bool s2,.slice a2 N2 c2] 30)).alloc (.cells #[.bool false,.slice none 0 0] 30)).alloc (.cells #[.bool false,.slice none 0 0] 30));have B2:=(((Bx.new2 w (.cells #[.bool s1,.slice a1 N1 c1] 30) 30 (.bool s2) (.slice a2 N2 c2)).alloc (.cells #[.bool false,.slice none 0 0] 30)).alloc (.cells #[.bool false,.slice none 0 0] 30));have B3:=((Bx.new3 w (.cells #[.bool s1,.slice a1 N1 c1] 30) (.cells #[.bool s2,.slice a2 N2 c2] 30) 30 (.bool false) (.slice none 0 0)).alloc (.cells #[.bool false,.slice none 0 0] 30));have B4:=(Bx.new4 w (.cells #[.bool s1,.slice a1 N1 c1] 30) (.cells #[.bool s2,.slice a2 N2 c2] 30) (.cells #[.bool false,.slice none 0 0] 30) 30 (.bool false) (.slice none 0 0));clear ok1 ok2 h1 h2 hN1 hN2 hs1 hs2 hz;go_enter Tryz.func203,Tryz.ntmps203
 go_upto_region 1 with (fail)
 obtain⟨W,hW⟩:∃ W,W=((((w.alloc (.cells #[.bool s1,.slice a1 N1 c1] 30)).alloc (.cells #[.bool s2,.slice a2 N2 c2] 30)).alloc (.cells #[.bool false,.slice none 0 0] 30)).alloc (.cells #[.bool false,.slice none 0 0] 30)):=⟨_,rfl⟩;have G1:=qh ((zk.alloc (by go_size) _ |>.alloc (by go_size) _ |>.alloc (by go_size) _ |>.alloc (by go_size) _):Below w.heap.size w ((((w.alloc (.cells #[.bool s1,.slice a1 N1 c1] 30)).alloc (.cells #[.bool s2,.slice a2 N2 c2] 30)).alloc (.cells #[.bool false,.slice none 0 0] 30)).alloc (.cells #[.bool false,.slice none 0 0] 30)))
 have hWs:w.heap.size+1+1+1+1=W.heap.size:=by rw[hW];simp
 rw[<- hW] at B1 B2 B3 B4 G1;rw[show((((w.alloc (.cells #[.bool s1,.slice a1 N1 c1] 30)).alloc (.cells #[.bool s2,.slice a2 N2 c2] 30)).alloc (.cells #[.bool false,.slice none 0 0] 30)).alloc (.cells #[.bool false,.slice none 0 0] 30))=W from hW.symm];clear hW;have HB1:=qh B1;have HB2:=qh B2;have HB3:=qh B3;have HB4:=qh B4;have HWS:=qh hWs;clear B1 B2 B3 B4 hWs
 have fb:=fun (w':World) (hb:Below W.heap.size W w')=>And.intro (HB1.o.bl hb) (And.intro (HB2.o.bl hb) (And.intro (HB3.o.bl hb) (HB4.o.bl hb)))
 have FB:=qh fb;clear fb;obtain⟨b10,b11,b12,b13⟩:=HB1.o.all;obtain⟨b20,b21,b22,b23⟩:=HB2.o.all;go_wp2_with fail
 refine(CK1.o _ G1.o).mono ?_;rintro e w1 ⟨rfl,hb1⟩;have K:=FB.o _ hb1;have GB:=qh hb1;clear b10 b11 b12 b13 b20 b21 b22 b23 hb1;obtain⟨b20,b21,b22,b23⟩:=K.2.1.all;clear K;go_wp2_with fail
 refine(CK2.o _ (G1.o.trans (GB.o.mono G1.o.size))).mono ?_;rintro e w2 ⟨rfl,hb2⟩;have GB:=qk GB hb2;have K:=FB.o _ GB.o;clear b20 b21 b22 b23 hb2 CK1 CK2;obtain⟨b10,b11,b12,b13⟩:=K.1.all;obtain⟨b20,b21,b22,b23⟩:=K.2.1.all;clear K;have hne0:decide ((N2:Int)=0)=false:=zo (by omega)
 have hne1:((N2:Int)==0)=false:=by simp;omega
 have AM:=qh (amounts_any z1.natAbs z2.natAbs a1 a2 c1 c2 w2 (by rw[<- HE.o.1.1];exact HR.o.1.below (G1.o.trans (GB.o.mono G1.o.size))) (by rw[<- HE.o.1.2];exact HR.o.2.below (G1.o.trans (GB.o.mono G1.o.size))) (by have:=HE.o.1.1;omega) (by have:=HE.o.1.2;omega));rw[<- HE.o.1.1,<- HE.o.1.2] at AM;obtain⟨cz,hcz⟩:∃ cz,cz=cmpZ (z1.natAbs:Int) (z2.natAbs:Int):=⟨_,rfl⟩;rw[<- hcz] at AM;have HCZ:=qh hcz;clear hcz
 go_upto_block 1 with (fail)
 go_cut [7,8] (fun v7 v8 wx=>∃ o1 K1 d1 p1 o2 K2 d2 p2,v7=.slice o1 K1 d1/\v8=.slice o2 K2 d2/\AmtO wx W.heap.size o1 K1 d1 (z1.natAbs/z2.natAbs) p1/\AmtO wx W.heap.size o2 K2 d2 (z1.natAbs%z2.natAbs) p2/\Apart2 o1 o2/\Below W.heap.size W wx)
 case first =>
  go_wp2_with fail
  refine AM.o.mono ?_;rintro e w3 ⟨rfl,m,rfl⟩;obtain⟨w3,hw3⟩:∃ w3,w3=w2.drewN m:=⟨_,rfl⟩;rw[<- hw3];have GB:=qh (show Below W.heap.size W w3 by rw[hw3];exact bdrewN GB.o m);clear hw3 AM b10 b11 b12 b13 b20 b21 b22 b23;have K:=FB.o _ GB.o;obtain⟨b10,b11,b12,b13⟩:=K.1.all;obtain⟨b20,b21,b22,b23⟩:=K.2.1.all;clear K;have HRR:=qh (And.intro (HR.o.1.below (G1.o.trans (GB.o.mono G1.o.size))) (HR.o.2.below (G1.o.trans (GB.o.mono G1.o.size))));by_cases hlt:cz<0
  ·have CL:=qh (clone_any a1 N1 c1 (dgi z1.natAbs) w3 HRR.o.1 (by omega));go_wp2_with fail
   refine CL.o.mono ?_;rintro e w4 ⟨x,d,rfl,hO,hn,hb⟩;have HO:=qh (And.intro (hO.mono GB.o.size) hn);have GB:=qk GB hb;clear hO hn hb CL b10 b11 b12 b13 b20 b21 b22 b23;go_wp2_with fail
   go_meet
   case rel =>
    have hAB:z1.natAbs<z2.natAbs:=by
     have h:=HCZ.o
     rcases Nat.lt_or_ge z1.natAbs z2.natAbs with h1 | h1
     ·exact h1
     ·exfalso
      rcases Nat.lt_or_ge z2.natAbs z1.natAbs with h2 | h2
      ·rw[cmpZ_gt (by omega)] at h;omega
      ·rw[cmpZ_eq (by omega)] at h;omega
    refine⟨none,0,0,fun _=>0,x,N1,d,dgi z1.natAbs,rfl,rfl,⟨⟨zj,Or.inl ⟨rfl,rfl,rfl⟩,fun i hi=>by omega⟩,fun i hi=>by omega,by rw[Nat.div_eq_of_lt hAB];rfl,by omega,fun _=>rfl⟩,
     ⟨HO.o.1,dgi_Dig _ _,by rw[Nat.mod_eq_of_lt hAB,HE.o.1.1];exact sumB_dgi _,by omega,HO.o.2⟩,(fun p q h=>by cases h),GB.o⟩
  ·have hdl:decide (cz<0)=false:=zo hlt
   have hBA:z2.natAbs<=z1.natAbs:=by
    have h:=HCZ.o
    rcases Nat.lt_or_ge z1.natAbs z2.natAbs with h1 | h1
    ·rw[cmpZ_lt (by omega)] at h;omega
    ·exact h1
   have HBA:=qh hBA;clear hBA;by_cases hone:N2=1
   ·subst hone;obtain⟨bb,bo,rfl,hcell⟩:=HRR.o.2.cells (by omega)
    have e0:z2.natAbs<1000000000:=by have:=lt_pw_lenB z2.natAbs;rw[<- HE.o.1.2] at this;exact this
    have e1:dgi z2.natAbs 0=(z2.natAbs:Int):=by show((dg z2.natAbs 0:Nat):Int)=_;rw[dg_zero];omega
    have cc:w3.cell? ⟨bb,bo,none⟩=some (.int .u32 (z2.natAbs:Int)):=by have:=hcell 0 (by omega);rw[Nat.add_zero] at this;rw[this];show some (Value.int .u32 (dgi z2.natAbs 0))=_;rw[e1]
    have SHT:=qh (fun (w':World) (hb:Below w3.heap.size w3 w')=>short_any a1 N1 c1 (dgi z1.natAbs) (z2.natAbs:Int) w' (HRR.o.1.below hb) (dgi_Dig _ _) (by omega) (by have:=HZ.o;omega) (by omega));have HQ:=qh (show sumB (dgi z1.natAbs) N1=(z1.natAbs:Int) by rw[HE.o.1.1];exact sumB_dgi _);rw[HQ.o] at SHT;clear hcell e1;have hbb:bb<w3.heap.size:=block_lt_of_cell cc;have HN:=qh e0;clear e0;go_wp2_with fail
    have GB3:=GB
    refine wp_region_fresh 11 (spOf [(6,Sp.made (fun g:Nat=>.tuple #[.slice (some ⟨g,0,none⟩) N1 N1,.int .u32 ((z1.natAbs:Int)%(z2.natAbs:Int))]) (fun g w'=>∃ p,Dig p N1/\sumB p N1=(z1.natAbs:Int)/(z2.natAbs:Int)/\Own 128 w' w3.heap.size (some ⟨g,0,none⟩) N1 N1 p))]) (fun w'=>Below w3.heap.size w3 w') (by kernel_rfl) (by kernel_rfl)
     (spOf_cons (Sp.made_keeps fun x w w' h hb=>by obtain⟨p,d1,d2,d3⟩:=h;exact⟨p,d1,d2,d3.below hb⟩) spOf_nil) (fun _ _ h hb=>h.trans (hb.mono h.size)) (zk.drew) ?_
    simp only[zx,zy,zv,zw]
    iterate 6
     (refine wpF_reads rfl rfl ?_ (fun w' hw'=>?_) ?_;rotate_left;· (have hb':=Has.world hw';(have hs:=(bcell hb').1 w.heap.size 1 (by omega);have hs:=(bcell hb').1 (w.heap.size+1) 1 (by omega);have hs:=(bcell hb').1 bb bo (by omega));clear hw';go_simp;try rfl))
     conv=>arg 9;simp only[Act.put,zq0,zq1,zq2]
    (refine wpF_spec rfl rfl (fun w' hw'=>?_) ?_;· (have hb':=Has.world hw';go_simp;((refine(SHT.o w' hb').mono ?_;rintro e w'' ⟨p,rfl,d1,d2,d3,hb⟩;exact⟨_,rfl,⟨⟨_,rfl⟩,⟨_,rfl,p,d1,d2,d3.mono hb'.size⟩⟩,hb⟩))))
    rintro _ ⟨g,rfl⟩
    conv=>arg 9;simp only[Act.put,zq0,zq1,zq2]
    iterate 4
     (refine wpF_reads rfl rfl ?_ (fun w' hw'=>?_) ?_;rotate_left;· (have hb':=Has.world hw';(skip);clear hw';go_simp;try rfl))
     conv=>arg 9;simp only[Act.put,zq0,zq1,zq2]
    refine wpF_nil (fun w4 hb4 hF=>?_);obtain⟨p,d1,d2,d3⟩:=short_of (hF 6);have HO:=qh (And.intro d1 (And.intro d2 d3));have hg4:=(d3.blk rfl).2.2;have HGL:=qh (show g<w4.heap.size from hg4);have GB:=qk GB hb4;have HS3:=qh hb4.size;clear hF d1 d2 d3 hb4 hg4 SHT b10 b11 b12 b13 b20 b21 b22 b23 cc;go_wp2_with fail
    go_meet
    case rel =>
     have hgl:=HGL.o;have hgs:=GB.o.size;have hr0:0<=(z1.natAbs:Int)%(z2.natAbs:Int)/\(z1.natAbs:Int)%(z2.natAbs:Int)<1000000000:=⟨Int.emod_nonneg _ (by have:=HZ.o;omega),by have:=Int.emod_lt_of_pos (z1.natAbs:Int) (b:=(z2.natAbs:Int)) (by have:=HZ.o;omega);have:=HN.o;omega⟩
     refine⟨some ⟨g,0,none⟩,N1,N1,p,some ⟨w4.heap.size,0,none⟩,1,1,fun _=>(z1.natAbs:Int)%(z2.natAbs:Int),rfl,rfl,⟨(HO.o.2.2.mono GB3.o.size).allocd _,HO.o.1,by rw[HO.o.2.1];exact(Int.natCast_ediv _ _).symm,by omega,fun h=>by cases h⟩,
      ⟨Own.of_rowIs (row_one w4 _ _) hgs (fun i hi=>by omega),fun i hi=>hr0,?_,by omega,fun h=>by cases h⟩,(fun p q hp hq=>by cases hp;cases hq;dsimp only;omega),GB.o.alloc hgs _⟩
     show 0+(z1.natAbs:Int)%(z2.natAbs:Int)*((pw 0:Nat):Int)=_;rw[pw_zero,Int.natCast_emod];omega
   ·obtain⟨n,hn⟩:∃ n,N2=n+1:=⟨N2-1,by omega⟩;obtain⟨m,hm⟩:∃ m,n=m+1:=⟨n-1,by omega⟩;obtain⟨M,hM⟩:∃ M,M+N2=N1+1:=⟨N1+1-N2,by have:=lenB_mono HBA.o;rw[<- HE.o.1.1,<- HE.o.1.2] at this;omega⟩
    have DV:=qh (divide_any a1 a2 N1 c1 N2 n m c2 (N1+1) M (dgi z1.natAbs) (dgi z2.natAbs) w3 HRR.o.1 HRR.o.2 (dgi_Dig _ _) (dgi_Dig _ _) (by omega) hn hm rfl hM (by have:=lenB_mono HBA.o;rw[<- HE.o.1.1,<- HE.o.1.2] at this;exact this)
     (by have h:=dg_last (m:=z2.natAbs) (by have:=HZ.o;omega);rw[<- HE.o.1.2,hn,Nat.add_sub_cancel] at h;show((dg z2.natAbs n:Nat):Int)≠0;omega))
    have hone1:((N2:Int)==1)=false:=by simp;omega
    have HM:=qh hM;have HNN:=qh hn;clear hn hm hM;go_wp2_with fail
    refine DV.o.mono ?_;rintro e w4 ⟨gq,gr,qp,rp,rfl,hne,d1,d2,d3,d4,d5,d6,hb⟩;have HO:=qh (And.intro (And.intro d1 (And.intro d2 d5)) (And.intro d3 (And.intro d4 d6)));have HNE:=qh hne;have hgs:=GB.o.size;have GB4:=qh (GB.o.trans (hb.mono GB.o.size));clear hne d1 d2 d3 d4 d5 d6 hb DV hgs b10 b11 b12 b13 b20 b21 b22 b23;go_wp2_with fail
    go_meet
    case rel =>
     have e1:sumB (dgi z1.natAbs) N1=(z1.natAbs:Int):=by rw[HE.o.1.1];exact sumB_dgi _
     have e2:sumB (dgi z2.natAbs) N2=(z2.natAbs:Int):=by rw[HE.o.1.2];exact sumB_dgi _
     exact⟨some ⟨gq,0,none⟩,M,M,qp,some ⟨gr,0,none⟩,N2,N2,rp,rfl,rfl,⟨HO.o.1.2.2.mono GB.o.size,HO.o.1.1,by rw[HO.o.1.2.1,e1,e2];exact(Int.natCast_ediv _ _).symm,by have:=HM.o;omega,fun h=>by cases h⟩,
      ⟨HO.o.2.2.2.mono GB.o.size,HO.o.2.1,by rw[HO.o.2.2.1,e1,e2];exact(Int.natCast_emod _ _).symm,by omega,fun h=>by cases h⟩,(fun p q hp hq=>by cases hp;cases hq;exact HNE.o),GB4.o⟩
 case rest =>
  obtain⟨o1,K1,d1,p1,o2,K2,d2,p2,rfl,rfl,A1,A2,hap,hb⟩:=hcut;obtain⟨w4,rfl⟩:∃ w4,w4=wc:=⟨_,rfl⟩;have GB:=qh hb;have HA1:=qh A1;have HA2:=qh A2;have HAP:=qh hap;clear A1 A2 hap hb AM HCZ;obtain⟨sq,hsq⟩:∃ sq,sq=decide (q0 z1 z2<0):=⟨_,rfl⟩;obtain⟨sr,hsr⟩:∃ sr,sr=decide (r0 z1 z2<0):=⟨_,rfl⟩;obtain⟨Lq,hLq⟩:∃ Lq,Lq=lenB (z1.natAbs/z2.natAbs):=⟨_,rfl⟩;obtain⟨Lr,hLr⟩:∃ Lr,Lr=lenB (z1.natAbs%z2.natAbs):=⟨_,rfl⟩;have CQ:=qh (fun (w':World) (hb:Below w4.heap.size w4 w')=>cut_amt (!(s1==s2)) sq o1 K1 d1 _ W.heap.size p1 w' (HA1.o.below hb) (by rw[HE.o.2.1,HE.o.2.2,hsq];exact q0_sign z1 z2));have CR:=qh (fun (w':World) (hb:Below w4.heap.size w4 w')=>cut_amt s1 sr o2 K2 d2 _ W.heap.size p2 w' (HA2.o.below hb) (by rw[HE.o.2.1,hsr];exact r0_sign z1 z2));rw[<- hLq] at CQ;rw[<- hLr] at CR;have HSQ:=qh (And.intro (And.intro hsq hsr) (And.intro hLq hLr));clear hsq hsr hLq hLr;have HS:=qh (fun (w':World) (hb:Below w4.heap.size w4 w')=>And.intro (FB.o w' (GB.o.trans (hb.mono GB.o.size))).1.all.1 (FB.o w' (GB.o.trans (hb.mono GB.o.size))).2.1.all.1)
  go_upto_region 12 with (fail)
  refine wp_region_fresh 10 (spOf [(6,Sp.know (numV sq o1 Lq Lq))]) (fun w'=>Below w4.heap.size w4 w') (by kernel_rfl) (by kernel_rfl)
   (spOf_cons (Sp.know_keeps _) spOf_nil) (fun _ _ h hb=>h.trans (hb.mono h.size)) (zk.drew) ?_
  simp only[zx,zy,zv,zw]
  iterate 6
   (refine wpF_reads rfl rfl ?_ (fun w' hw'=>?_) ?_;rotate_left;· (have hb':=Has.world hw';(have hs:=(HS.o _ hb').1;have hs:=(HS.o _ hb').2);clear hw';go_simp;try rfl))
   conv=>arg 9;simp only[Act.put,zq0,zq1,zq2]
  (refine wpF_spec rfl rfl (fun w' hw'=>?_) ?_;· (have hb':=Has.world hw';go_simp;((refine(CQ.o w' hb').mono ?_;rintro e w'' ⟨rfl,ho,hb⟩;exact⟨_,rfl,rfl,hb⟩))))
  rintro _ rfl
  conv=>arg 9;simp only[Act.put,zq0,zq1,zq2]
  iterate 3
   (refine wpF_reads rfl rfl ?_ (fun w' hw'=>?_) ?_;rotate_left;· (have hb':=Has.world hw';(have hs:=(HS.o _ hb').1);clear hw';go_simp;try rfl))
   conv=>arg 9;simp only[Act.put,zq0,zq1,zq2]
  refine wpF_nil (fun w5 hb5 hF=>?_);have hG5:=GB.o.trans (hb5.mono GB.o.size);have CR5:=qh (CR.o w5 hb5);have HB5:=qh hb5;clear hF hb5 CR CQ HS;go_wp2_with fail
  refine CR5.o.mono ?_;rintro e w6 ⟨rfl,-,hb6⟩;have GB:=qh (hG5.trans (hb6.mono hG5.size));have HX:=qh (HB5.o.trans (hb6.mono HB5.o.size));have HA1:=qh (HA1.o.below HX.o);have HA2:=qh (HA2.o.below HX.o);clear HB5 HX hb6 hG5 CR5;have K:=FB.o _ GB.o;obtain⟨b10,b11,b12,b13⟩:=K.1.all;obtain⟨b20,b21,b22,b23⟩:=K.2.1.all;obtain⟨b30,b31,b32,b33⟩:=K.2.2.1.all;obtain⟨b40,b41,b42,b43⟩:=K.2.2.2.all;have HK:=qh K;clear K
  go_upto_if 79 with (fail)
  obtain⟨V,hV⟩:∃ V,V=((((w6.setCell ⟨w.heap.size+1+1,0,none⟩ (.bool sq)).setCell ⟨w.heap.size+1+1,1,none⟩ (.slice o1 Lq Lq)).setCell ⟨w.heap.size+1+1+1,0,none⟩ (.bool sr)).setCell ⟨w.heap.size+1+1+1,1,none⟩ (.slice o2 Lr Lr)):=⟨_,rfl⟩;rw[<- hV];have hws:=HWS.o;have HV1:=qh (show Bx V w.heap.size 30 (.bool s1) (.slice a1 N1 c1) by rw[hV];exact(((HK.o.1.oz).oz).oz).oz);have HV2:=qh (show Bx V (w.heap.size+1) 30 (.bool s2) (.slice a2 N2 c2) by rw[hV];exact(((HK.o.2.1.oz).oz).oz).oz);have HV3:=qh (show Bx V (w.heap.size+1+1) 30 (.bool sq) (.slice o1 Lq Lq) by rw[hV];exact((HK.o.2.2.1.set _ _).oz).oz);have HV4:=qh (show Bx V (w.heap.size+1+1+1) 30 (.bool sr) (.slice o2 Lr Lr) by rw[hV];exact((HK.o.2.2.2.oz).oz).set _ _);have HQ:=qh (show AmtO V W.heap.size o1 K1 d1 (z1.natAbs/z2.natAbs) p1 by rw[hV];exact(((HA1.o.oz).oz).oz).oz);have HRM:=qh (show AmtO V W.heap.size o2 K2 d2 (z1.natAbs%z2.natAbs) p2 by rw[hV];exact(((HA2.o.oz).oz).oz).oz)
  have HGV:=qh (show Below w.heap.size w V by
   rw[hV];have h:=G1.o.trans (GB.o.mono G1.o.size)
   exact(((h.sc).sc).sc).sc)
  have HSV:=qh (show W.heap.size<=V.heap.size by rw[hV];simp only[World.size_setCell];exact GB.o.size);clear hV HA1 HA2 HK GB FB b10 b11 b12 b13 b20 b21 b22 b23 b30 b31 b32 b33 b40 b41 b42 b43 HB1 HB2 HB3 HB4 G1 hws;obtain⟨b10,b11,b12,b13⟩:=HV1.o.all;obtain⟨b20,b21,b22,b23⟩:=HV2.o.all;obtain⟨b30,b31,b32,b33⟩:=HV3.o.all;obtain⟨b40,b41,b42,b43⟩:=HV4.o.all
  go_cut [] (fun wx=>∃ aq ar,Bx wx (w.heap.size+1+1) 30 (.bool (decide (z1/z2<0))) (.slice aq (lenB (z1/z2).natAbs) (lenB (z1/z2).natAbs))/\Bx wx (w.heap.size+1+1+1) 30 (.bool (decide (z1%z2<0))) (.slice ar (lenB (z1%z2).natAbs) (lenB (z1%z2).natAbs)) /\
   Own 128 wx W.heap.size aq (lenB (z1/z2).natAbs) (lenB (z1/z2).natAbs) (dgi (z1/z2).natAbs)/\Own 128 wx W.heap.size ar (lenB (z1%z2).natAbs) (lenB (z1%z2).natAbs) (dgi (z1%z2).natAbs)/\Apart2 aq ar/\(aq=none->lenB (z1/z2).natAbs=0)/\(ar=none->lenB (z1%z2).natAbs=0)/\Below w.heap.size w wx)
  case first =>
   by_cases hng:r0 z1 z2<0
   ·have esr:sr=true:=HSQ.o.1.2.trans (decide_eq_true hng);have HNG:=qh hng
    obtain⟨y,hy⟩:∃ y:Int,y=if z2<0 then 1 else -1:=⟨_,rfl⟩
    have hy1:y.natAbs=1:=by rw[hy];split <;> rfl
    have hy2:(!s2)=decide (y<0):=by
     rw[HE.o.2.2,hy];by_cases h:z2<0
     ·rw[if_pos h,decide_eq_true h];rfl
     ·rw[if_neg h,zo h];rfl
    have HY:=qh (And.intro hy (And.intro hy1 hy2));have OF:=qh (of64_any 1 V (by omega) (by omega));clear hng hy hy1 hy2;subst esr;go_wp2_with fail
    refine OF.o.mono ?_;rintro e w7 ⟨ay,rfl,hoy,-,hb7⟩;rw[show(1:Int).natAbs=1 from rfl] at hoy;have HOY:=qh hoy;have HB7:=qh hb7;have M1:=HV1.o.bl hb7;have M2:=HV2.o.bl hb7;have M3:=HV3.o.bl hb7;have M4:=HV4.o.bl hb7;have HM2:=qh M2;have HM3:=qh M3;have HM4:=qh M4;clear hoy hb7 OF b10 b11 b12 b13 b20 b21 b22 b23 b30 b31 b32 b33 b40 b41 b42 b43;obtain⟨b20,b21,b22,b23⟩:=M2.all;obtain⟨b30,b31,b32,b33⟩:=M3.all;obtain⟨b40,b41,b42,b43⟩:=M4.all;clear M1 M2 M3 M4
    go_upto_region 18 with (fail)
    obtain⟨U,hU⟩:∃ U,U=(w7.alloc (.cells #[.bool (!s2),.slice ay (lenB 1) (lenB 1)] 30)).alloc (.cells #[.bool false,.slice a2 N2 c2] 30):=⟨_,rfl⟩
    have hbU:Below V.heap.size V U:=by rw[hU];exact(HB7.o.alloc HB7.o.size _).alloc (by simp;have:=HB7.o.size;omega) _
    have hx1:Bx U w7.heap.size 30 (.bool (!s2)) (.slice ay (lenB 1) (lenB 1)):=by rw[hU];exact(Bx.new w7 _ _ _).alloc _
    have hx2:Bx U (w7.heap.size+1) 30 (.bool false) (.slice a2 N2 c2):=by rw[hU];exact Bx.new2 w7 _ _ _ _
    have hoU:Own 128 U V.heap.size ay (lenB 1) (lenB 1) (dgi 1):=by rw[hU];exact(HOY.o.allocd _).allocd _
    rw[show(w7.alloc (.cells #[.bool (!s2),.slice ay (lenB 1) (lenB 1)] 30)).alloc (.cells #[.bool false,.slice a2 N2 c2] 30)=U from hU.symm];have HBU:=qh hbU;have HX1:=qh hx1;have HX2:=qh hx2;have HOU:=qh hoU;have HU3:=qh (HV3.o.bl hbU);have HU4:=qh (HV4.o.bl hbU);clear hU hbU hx1 hx2 hoU HOY HB7 HM2 HM3 HM4 b20 b21 b22 b23 b30 b31 b32 b33 b40 b41 b42 b43;have DS:=qh (div_down HZ.o HNG.o);obtain⟨Q,hQ⟩:∃ Q,Q=z1/z2:=⟨_,rfl⟩;obtain⟨R,hR⟩:∃ R,R=z1%z2:=⟨_,rfl⟩
    have e1:valN sq Lq (dgi (z1.natAbs/z2.natAbs))+valN (!s2) (lenB 1) (dgi 1)=Q:=by
     rw[hQ,DS.o.1,HSQ.o.1.1,HSQ.o.2.1,<- q0_abs,canon_val,HY.o.2.2,<- HY.o.2.1,canon_val,HY.o.1]
    have e2:valN true Lr (dgi (z1.natAbs%z2.natAbs))+valN false N2 (dgi z2.natAbs)=R:=by
     have h:=canon_val ((z2.natAbs:Nat):Int);rw[show decide (((z2.natAbs:Nat):Int)<0)=false from zo (by omega),Int.natAbs_natCast] at h;rw[hR,DS.o.2,HSQ.o.1.2,HSQ.o.2.2,<- r0_abs,canon_val,HE.o.1.2,h]
    have hl1:Lq<=10000000:=by have:=lenB_mono (Nat.div_le_self z1.natAbs z2.natAbs);rw[<- HSQ.o.2.1,<- HE.o.1.1] at this;omega
    have hl2:Lr<=10000000:=by have:=lenB_mono (Nat.le_of_lt (Nat.mod_lt z1.natAbs (show 0<z2.natAbs by have:=HZ.o;omega)));rw[<- HSQ.o.2.2,<- HE.o.1.2] at this;omega
    have hl3:lenB 1<=1:=lenB_le (by decide)
    have ho1:Rd V o1 Lq (dgi (z1.natAbs/z2.natAbs)):=by rw[HSQ.o.2.1];exact HQ.o.num.rd
    have ho2:Rd V o2 Lr (dgi (z1.natAbs%z2.natAbs)):=by rw[HSQ.o.2.2];exact HRM.o.num.rd
    have AD1:=qh (fun (w':World) (hb:Below U.heap.size U w')=>add_res sq o1 Lq Lq (dgi (z1.natAbs/z2.natAbs)) (!s2) ay (lenB 1) (lenB 1) (dgi 1) w' ((ho1.below HBU.o).below hb) (by omega) zj (HOU.o.rd.below hb) (by omega) zj);have AD2:=qh (fun (w':World) (hb:Below U.heap.size U w')=>add_res true o2 Lr Lr (dgi (z1.natAbs%z2.natAbs)) false a2 N2 c2 (dgi z2.natAbs) w' ((ho2.below HBU.o).below hb) (by omega) zj (HR.o.2.below ((HGV.o.trans (HBU.o.mono HGV.o.size)).trans (hb.mono (zm HGV.o.size HBU.o.size)))) (by omega) hc2);rw[e1] at AD1;rw[e2] at AD2;have HQR:=qh (And.intro hQ hR);clear hQ hR e1 e2 hl1 hl2 hl3 ho1 ho2;have HS:=qh (fun (w':World) (hb:Below U.heap.size U w')=>And.intro (And.intro (HU3.o.bl hb) (HU4.o.bl hb)) (And.intro (HX1.o.bl hb) (HX2.o.bl hb)))
    refine wp_region_fresh 5 (spOf [(2,Sp.made (fun x:Option Addr=>numV (decide (Q<0)) x (lenB Q.natAbs) (lenB Q.natAbs)) (fun x w'=>Own 128 w' U.heap.size x (lenB Q.natAbs) (lenB Q.natAbs) (dgi Q.natAbs)/\(x=none->lenB Q.natAbs=0)))]) (fun w'=>Below U.heap.size U w') (by kernel_rfl) (by kernel_rfl)
     (spOf_cons (Sp.made_keeps fun x w w' h hb=>⟨h.1.below hb,h.2⟩) spOf_nil) (fun _ _ h hb=>h.trans (hb.mono h.size)) (zk.drew) ?_
    simp only[zx,zy,zv,zw]
    iterate 2
     (refine wpF_reads rfl rfl ?_ (fun w' hw'=>?_) ?_;rotate_left;· (have hb':=Has.world hw';(obtain⟨x0,x1,x2,x3⟩:=(HS.o _ hb').1.1.all;obtain⟨x0,x1,x2,x3⟩:=(HS.o _ hb').2.1.all);clear hw';go_simp;try rfl))
     conv=>arg 9;simp only[Act.put,zq0,zq1,zq2]
    (refine wpF_spec rfl rfl (fun w' hw'=>?_) ?_;· (have hb':=Has.world hw';go_simp;((refine(AD1.o w' hb').mono ?_;rintro e w'' ⟨a,rfl,ho,hn,hb⟩;exact⟨_,rfl,⟨⟨a,rfl⟩,⟨a,rfl,ho.mono hb'.size,hn⟩⟩,hb⟩))))
    rintro _ ⟨x,rfl⟩
    conv=>arg 9;simp only[Act.put,zq0,zq1,zq2]
    iterate 2
     (refine wpF_reads rfl rfl ?_ (fun w' hw'=>?_) ?_;rotate_left;· (have hb':=Has.world hw';(obtain⟨x0,x1,x2,x3⟩:=(HS.o _ hb').1.2.all;obtain⟨x0,x1,x2,x3⟩:=(HS.o _ hb').2.2.all);clear hw';go_simp;try rfl))
     conv=>arg 9;simp only[Act.put,zq0,zq1,zq2]
    refine wpF_nil (fun w8 hb8 hF=>?_);have hX:=own_num (T:=128) (b:=U.heap.size) (s:=decide (Q<0)) (L:=lenB Q.natAbs) (o:=dgi Q.natAbs) (a:=x) (p:=fun x=>x=none->lenB Q.natAbs=0) (hF 2);have HXQ:=qh hX;have A2:=qh (AD2.o w8 hb8);have HB8:=qh hb8;clear hF hX hb8 AD1 AD2;go_wp2_with fail
    refine A2.o.mono ?_;rintro e w9 ⟨y9,rfl,hoy,hny,hb9⟩;have HB9:=qh (HB8.o.trans (hb9.mono HB8.o.size));have HXQ9:=qh (HXQ.o.1.below hb9);have HLT:=qh (show ∀ p,x=some p->p.block<w8.heap.size from fun p hp=>(HXQ.o.1.blk hp).2.2);have HOY:=qh (And.intro hoy hny);have M:=HS.o _ HB9.o;have HM:=qh M;clear hoy hny hb9 A2;obtain⟨b30,b31,b32,b33⟩:=M.1.1.all;obtain⟨b40,b41,b42,b43⟩:=M.1.2.all;clear M;go_wp2_with fail
    go_meet
    case rel =>
     have s1':=HB8.o.size;have s2':=HBU.o.size;have s3':=HSV.o;have s4':=HWS.o;rw[<- HQR.o.1,<- HQR.o.2];refine⟨x,y9,((HM.o.1.1.set _ _).oz).oz,((HM.o.1.2.oz).oz).set _ _,?_,?_,?_,HXQ.o.2,HOY.o.2,?_⟩
     ·exact((((HXQ9.o.oz).oz).oz).oz).mono (by omega)
     ·exact((((HOY.o.1.oz).oz).oz).oz).mono (by omega)
     ·intro p q hp hq e;have h1:=HLT.o p hp;have h2:=(HOY.o.1.blk hq).2.1;omega
     ·have h:=(HGV.o.trans (HBU.o.mono HGV.o.size)).trans (HB9.o.mono (zm HGV.o.size HBU.o.size));exact(((h.sc).sc).sc).sc
   ·have esr:sr=false:=HSQ.o.1.2.trans (zo hng);have DP:=qh (div_plain HZ.o hng);subst esr;clear hng;go_wp2_with fail
    go_meet
    case rel =>
     have e1:(z1/z2).natAbs=z1.natAbs/z2.natAbs:=by rw[DP.o.1,q0_abs]
     have e2:(z1%z2).natAbs=z1.natAbs%z2.natAbs:=by rw[DP.o.2,r0_abs]
     refine⟨o1,o2,?_,?_,?_,?_,HAP.o,?_,?_,HGV.o⟩
     ·rw[e1,<- HSQ.o.2.1,DP.o.1,<- HSQ.o.1.1];exact HV3.o
     ·rw[e2,<- HSQ.o.2.2,DP.o.2,<- HSQ.o.1.2];exact HV4.o
     ·rw[e1];exact HQ.o.num
     ·rw[e2];exact HRM.o.num
     ·rw[e1];exact HQ.o.none
     ·rw[e2];exact HRM.o.none
  case rest =>
   obtain⟨aq,ar,B3,B4,hoq,hor,hap,hnq,hnr,hb⟩:=hcut;obtain⟨w8,rfl⟩:∃ w8,w8=wc:=⟨_,rfl⟩;have K3:=qh B3;have K4:=qh B4;have HOQ:=qh (And.intro hoq (And.intro hor (And.intro hap (And.intro hnq (And.intro hnr hb)))));clear hoq hor hap hnq hnr hb;clear b10 b11 b12 b13 b20 b21 b22 b23 b30 b31 b32 b33 b40 b41 b42 b43;obtain⟨b30,b31,b32,b33⟩:=B3.all;obtain⟨b40,b41,b42,b43⟩:=B4.all;clear B3 B4
   go_upto_region 19 with (fail)
   go_region;go_wp2_with fail
   have hws:=HWS.o;have k3:=((K3.o.set (.bool (decide (z1/z2<0))) (.slice aq (lenB (z1/z2).natAbs) (lenB (z1/z2).natAbs))).other (a:=⟨w.heap.size+1+1+1,0,none⟩) (by dsimp only;omega) (.bool (decide (z1%z2<0)))).other (a:=⟨w.heap.size+1+1+1,1,none⟩) (by dsimp only;omega) (.slice ar (lenB (z1%z2).natAbs) (lenB (z1%z2).natAbs));have k4:=((K4.o.other (a:=⟨w.heap.size+1+1,0,none⟩) (by dsimp only;omega) (.bool (decide (z1/z2<0)))).other (a:=⟨w.heap.size+1+1,1,none⟩) (by dsimp only;omega) (.slice aq (lenB (z1/z2).natAbs) (lenB (z1/z2).natAbs))).set (.bool (decide (z1%z2<0))) (.slice ar (lenB (z1%z2).natAbs) (lenB (z1%z2).natAbs));refine bodyPost_ret (results_cct rfl _ _ _ _ _ _ _ _ _ _ _ rfl k3 rfl k4 Tryz.underlying30 rfl (by kernel_rfl) (by kernel_rfl)) rfl ⟨aq,ar,rfl,?_,?_,HOQ.o.2.2.1,HOQ.o.2.2.2.1,HOQ.o.2.2.2.2.1,?_⟩
   ·exact((((((HOQ.o.1.oz).oz).oz).oz)).below zk.drew).mono (by omega)
   ·exact((((((HOQ.o.2.1.oz).oz).oz).oz)).below zk.drew).mono (by omega)
   ·have h:=HOQ.o.2.2.2.2.2;exact((((h.sc).sc).sc).sc).drew
end Limb
namespace Book
open Go.RowKit Go.Sort Go.FreshG Limb
theorem infoHeldL:(Tryz.prog.info? 127).map (fun i=>(i.zero,i.size,i.bytes))=some (some (.agg #[.slice none 0 0,.slice none 0 0,.int .i64 0]),3,56):=by kernel_rfl
def Row1L (w:World) (base k q:Nat) (xs:List Value) (a:Option Addr) (n c:Nat) (x:Value):Prop:=w.ownsRow base 127 3 x (k+1) (xs++held a n c q)
def GrL (base k q:Nat) (v:Value) (xs:List Value) (a:Option Addr) (n c:Nat) (w w':World):Prop :=
 Touch (fun g=>v.ownBlock=some g) w w'/\(w.ownsRow base 127 3 v k xs->w'.ownsRow base 127 3 v k xs)/\∀ x,Row1L w base k q xs a n c x->Row1L w' base k q xs a n c x
theorem GrL.refl (base k q:Nat) (v:Value) (xs:List Value) (a:Option Addr) (n c:Nat) (w:World):GrL base k q v xs a n c w w:=⟨Touch.refl _ _,fun h=>h,fun _ h=>h⟩
theorem GrL.grown {base k q:Nat} {v:Value} {xs:List Value} {a:Option Addr} {n c:Nat} {w w':World} (h:w.grownBy w' none):GrL base k q v xs a n c w w':=by
 refine⟨(Touch.refl _ _).grown h (fun _ h=>by cases h),fun hr=>hr.kept h ?_,fun x hr=>World.ownsRow.kept hr h ?_⟩
 ·cases hv:v.ownBlock
  ·exact .inl rfl
  ·exact .inr (by simp)
 ·cases hv:x.ownBlock
  ·exact .inl rfl
  ·exact .inr (by simp)
theorem GrL.alloc {base k q:Nat} {v:Value} {xs:List Value} {a:Option Addr} {n c:Nat} (w:World) (o:Obj):GrL base k q v xs a n c w (w.alloc o):=GrL.grown (World.grownBy_alloc w o none)
theorem keep_appendL {w:World} {base k q:Nat} {v:Value} {xs:List Value} (h:w.ownsRow base 127 3 v k xs) (hb:base<=w.heap.size) (hk:k<=30000) (gs:Nat) (a:Option Addr) (n c:Nat)
  (hs:w.heap[gs]?=some (.cells #[.slice a n c,.slice none 0 0,.int .i64 ((q:Int)+1)] 127 (0,0))) (ty:Nat) :
  ∃ x w',(Builtin.append_ #[47,47] ty #[v,.slice (some ⟨gs,0,none⟩) 1 1]).run Tryz.prog w=.ok x w'/\Row1L w' base k q xs a n c x/\GrL base k q v xs a n c w w' /\
   (v.ownBlock=x.ownBlock\/∃ g,x.ownBlock=some g/\w.heap.size<=g):=by
 obtain⟨i0,hi,hz0,hz1,hz2⟩:=info_parts infoHeldL
 have hnews:∀ j u,(held a n c q)[j]?=some u->w.cell? ((⟨gs,0,none⟩:Addr).add j)=some u:=by
  intro j u hj;rw[Addr.add_lit,Nat.zero_add,cell_of_row _ _ _ _ _ _ hs]
  match j,hj with
  | 0,hj=>exact hj
  | 1,hj=>exact hj
  | 2,hj=>exact hj
  | j+3,hj=>simp[held] at hj
 have h1:∀ u∈held a n c q,u.oneCell'=true:=by intro u hu;simp[held] at hu;rcases hu with rfl | rfl | rfl <;> rfl
 have hl:(held a n c q).length=1*3:=rfl;have hxl:=h.1
 have hlen:(xs++held a n c q).length=(k+1)*3:=by rw[List.length_append,hxl];show _+3=_;omega
 have fresh:∀ old,old<k+1->Row1L (w.drew.alloc (.cells (xs.toArray++(held a n c q).toArray++Builtin.zeroCells (Value.agg #[.slice none 0 0,.slice none 0 0,.int .i64 0]).cells (grownCap w (k+1) old 127-(k+1))) 127)) base k q xs a n c (.slice (some ⟨w.heap.size,0,none⟩) (k+1) (grownCap w (k+1) old 127)) /\
   w.grownBy (w.drew.alloc (.cells (xs.toArray++(held a n c q).toArray++Builtin.zeroCells (Value.agg #[.slice none 0 0,.slice none 0 0,.int .i64 0]).cells (grownCap w (k+1) old 127-(k+1))) 127)) none:=by
  intro old ho;have hge:=grownCap_ge w (k+1) old 127;have hcm:=grownCap_le_maxLen w (k+1) old 127 (by unfold maxLen;omega);refine⟨⟨hlen,.inr ⟨w.heap.size,_,_,rfl,hb,heap_alloc_new w.drew _,hge,hcm,?_,?_⟩⟩,⟨rfl,rfl,rfl,by simp,fun q hq _=>heap_alloc_old w.drew _ hq⟩⟩
  ·simp only[Array.size_append,List.size_toArray,size_zeroCells,hxl,hl];show _+_+_*3=_;omega
  ·simp only[Array.toList_append];rw[<- hlen];exact List.take_left
 rcases h.2 with ⟨rfl,rfl⟩ | ⟨g,cap,cur,rfl,hbg,hg,hnc,hcm,hcs,htake⟩
 ·have hx:xs=[]:=List.eq_nil_of_length_eq_zero (by simpa using hxl);subst hx;have hr:=run_append_nil (P:=Tryz.prog) w 47 ty 127 i0 _ Tryz.underlying47 hi hz0 ⟨gs,0,none⟩ 1 1 (held a n c q) (by rw[hz1];rfl) hnews (by omega) (by omega) (by rw[hz2];omega);have hgr:=fresh 0 (by omega);simp only[Nat.zero_add,ze,Array.empty_append] at hgr;exact⟨_,_,hr,hgr.1,GrL.grown hgr.2,.inr ⟨_,rfl,zj⟩⟩
 ·by_cases hroom:k+1<=cap
  ·have hr:=run_append_room (P:=Tryz.prog) w 47 ty 127 i0 Tryz.underlying47 hi g k cap cur hg ⟨gs,0,none⟩ 1 1 (held a n c q) (by rw[hz1];rfl) hnews h1 hroom (by rw[hz1,hl,hcs];omega);rw[hz1,hl] at hr
   have hcl:k*3<=cur.toList.length:=by rw[Array.length_toList,hcs];omega
   have hnew:=setRow_heap w g cur (cur.toList.take (k*3)++held a n c q++cur.toList.drop (k*3+1*3)).toArray 127 _ hg
   have hsz:(cur.toList.take (k*3)++held a n c q++cur.toList.drop (k*3+1*3)).toArray.size=cap*3:=by
    simp only[List.size_toArray,List.length_append,List.length_take,List.length_drop,Array.length_toList,hl,hcs];omega
   have ht1:(cur.toList.take (k*3)++held a n c q++cur.toList.drop (k*3+1*3)).take ((k+1)*3)=xs++held a n c q:=by
    rw[show(k+1)*3=k*3+1*3 by omega,take_mid hcl hl,htake]
   have ht0:(cur.toList.take (k*3)++held a n c q++cur.toList.drop (k*3+1*3)).take (k*3)=xs:=by
    have h3:=congrArg (List.take (k*3)) ht1;rw[List.take_take,Nat.min_eq_left (by omega),<- hxl,List.take_left] at h3;rw[<- hxl];exact h3
   refine⟨_,_,hr,⟨hlen,.inr ⟨g,cap,_,rfl,hbg,hnew,hroom,hcm,hsz,ht1⟩⟩,⟨?_,?_,?_⟩,.inl rfl⟩
   ·exact⟨rfl,rfl,rfl,by simp,fun q _ hq=>setRow_other w g q _ (fun e=>hq (by simp[Value.ownBlock,e]))⟩
   ·exact fun _=>⟨hxl,.inr ⟨g,cap,_,rfl,hbg,hnew,hnc,hcm,hsz,ht0⟩⟩
   ·intro x hx
    rcases hx.2 with ⟨_,h0⟩ | ⟨g',cap',cur',rfl,hbg',hg',hnc',hcm',hcs',htake'⟩
    ·omega
    ·refine⟨hlen,.inr ?_⟩;by_cases e:g'=g
     ·subst e
      have e2:cur'=cur:=by have:=hg'.symm.trans hg;simpa using this
      subst e2;exact⟨g',cap',_,rfl,hbg',hnew,hnc',hcm',by rw[hsz];omega,ht1⟩
     ·exact⟨g',cap',cur',rfl,hbg',(setRow_other w g g' _ e).trans hg',hnc',hcm',hcs',htake'⟩
  ·have holds:∀ j u,xs[j]?=some u->w.cell? ((⟨g,0,none⟩:Addr).add j)=some u:=h.cells (g:=g) rfl;have hr:=run_append_grow (P:=Tryz.prog) w 47 ty 127 i0 _ Tryz.underlying47 hi hz0 ⟨g,0,none⟩ k cap xs (by rw[hz1];exact hxl) holds ⟨gs,0,none⟩ 1 1 (held a n c q) (by rw[hz1];rfl) hnews (by omega) (by omega) (growslice_fits (by omega) (by rw[hz2];omega));have hgr:=fresh cap (by omega);exact⟨_,_,hr,hgr.1,GrL.grown hgr.2,.inr ⟨_,rfl,zj⟩⟩
theorem infoHeldT:(Tryz.prog.info? 120).map (fun i=>(i.zero,i.size,i.bytes))=some (some (.agg #[.slice none 0 0,.slice none 0 0,.int .i64 0]),3,56):=by kernel_rfl
def Row1T (w:World) (base k q:Nat) (xs:List Value) (a:Option Addr) (n c:Nat) (x:Value):Prop:=w.ownsRow base 120 3 x (k+1) (xs++held a n c q)
def GrT (base k q:Nat) (v:Value) (xs:List Value) (a:Option Addr) (n c:Nat) (w w':World):Prop :=
 Touch (fun g=>v.ownBlock=some g) w w'/\(w.ownsRow base 120 3 v k xs->w'.ownsRow base 120 3 v k xs)/\∀ x,Row1T w base k q xs a n c x->Row1T w' base k q xs a n c x
theorem GrT.refl (base k q:Nat) (v:Value) (xs:List Value) (a:Option Addr) (n c:Nat) (w:World):GrT base k q v xs a n c w w:=⟨Touch.refl _ _,fun h=>h,fun _ h=>h⟩
theorem GrT.grown {base k q:Nat} {v:Value} {xs:List Value} {a:Option Addr} {n c:Nat} {w w':World} (h:w.grownBy w' none):GrT base k q v xs a n c w w':=by
 refine⟨(Touch.refl _ _).grown h (fun _ h=>by cases h),fun hr=>hr.kept h ?_,fun x hr=>World.ownsRow.kept hr h ?_⟩
 ·cases hv:v.ownBlock
  ·exact .inl rfl
  ·exact .inr (by simp)
 ·cases hv:x.ownBlock
  ·exact .inl rfl
  ·exact .inr (by simp)
theorem GrT.alloc {base k q:Nat} {v:Value} {xs:List Value} {a:Option Addr} {n c:Nat} (w:World) (o:Obj):GrT base k q v xs a n c w (w.alloc o):=GrT.grown (World.grownBy_alloc w o none)
theorem keep_appendT {w:World} {base k q:Nat} {v:Value} {xs:List Value} (h:w.ownsRow base 120 3 v k xs) (hb:base<=w.heap.size) (hk:k<=30000) (gs:Nat) (a:Option Addr) (n c:Nat)
  (hs:w.heap[gs]?=some (.cells #[.slice a n c,.slice none 0 0,.int .i64 ((q:Int)+1)] 120 (0,0))) (ty:Nat) :
  ∃ x w',(Builtin.append_ #[51,51] ty #[v,.slice (some ⟨gs,0,none⟩) 1 1]).run Tryz.prog w=.ok x w'/\Row1T w' base k q xs a n c x/\GrT base k q v xs a n c w w' /\
   (v.ownBlock=x.ownBlock\/∃ g,x.ownBlock=some g/\w.heap.size<=g):=by
 obtain⟨i0,hi,hz0,hz1,hz2⟩:=info_parts infoHeldT
 have hnews:∀ j u,(held a n c q)[j]?=some u->w.cell? ((⟨gs,0,none⟩:Addr).add j)=some u:=by
  intro j u hj;rw[Addr.add_lit,Nat.zero_add,cell_of_row _ _ _ _ _ _ hs]
  match j,hj with
  | 0,hj=>exact hj
  | 1,hj=>exact hj
  | 2,hj=>exact hj
  | j+3,hj=>simp[held] at hj
 have h1:∀ u∈held a n c q,u.oneCell'=true:=by intro u hu;simp[held] at hu;rcases hu with rfl | rfl | rfl <;> rfl
 have hl:(held a n c q).length=1*3:=rfl;have hxl:=h.1
 have hlen:(xs++held a n c q).length=(k+1)*3:=by rw[List.length_append,hxl];show _+3=_;omega
 have fresh:∀ old,old<k+1->Row1T (w.drew.alloc (.cells (xs.toArray++(held a n c q).toArray++Builtin.zeroCells (Value.agg #[.slice none 0 0,.slice none 0 0,.int .i64 0]).cells (grownCap w (k+1) old 120-(k+1))) 120)) base k q xs a n c (.slice (some ⟨w.heap.size,0,none⟩) (k+1) (grownCap w (k+1) old 120)) /\
   w.grownBy (w.drew.alloc (.cells (xs.toArray++(held a n c q).toArray++Builtin.zeroCells (Value.agg #[.slice none 0 0,.slice none 0 0,.int .i64 0]).cells (grownCap w (k+1) old 120-(k+1))) 120)) none:=by
  intro old ho;have hge:=grownCap_ge w (k+1) old 120;have hcm:=grownCap_le_maxLen w (k+1) old 120 (by unfold maxLen;omega);refine⟨⟨hlen,.inr ⟨w.heap.size,_,_,rfl,hb,heap_alloc_new w.drew _,hge,hcm,?_,?_⟩⟩,⟨rfl,rfl,rfl,by simp,fun q hq _=>heap_alloc_old w.drew _ hq⟩⟩
  ·simp only[Array.size_append,List.size_toArray,size_zeroCells,hxl,hl];show _+_+_*3=_;omega
  ·simp only[Array.toList_append];rw[<- hlen];exact List.take_left
 rcases h.2 with ⟨rfl,rfl⟩ | ⟨g,cap,cur,rfl,hbg,hg,hnc,hcm,hcs,htake⟩
 ·have hx:xs=[]:=List.eq_nil_of_length_eq_zero (by simpa using hxl);subst hx;have hr:=run_append_nil (P:=Tryz.prog) w 51 ty 120 i0 _ Tryz.underlying51 hi hz0 ⟨gs,0,none⟩ 1 1 (held a n c q) (by rw[hz1];rfl) hnews (by omega) (by omega) (by rw[hz2];omega);have hgr:=fresh 0 (by omega);simp only[Nat.zero_add,ze,Array.empty_append] at hgr;exact⟨_,_,hr,hgr.1,GrT.grown hgr.2,.inr ⟨_,rfl,zj⟩⟩
 ·by_cases hroom:k+1<=cap
  ·have hr:=run_append_room (P:=Tryz.prog) w 51 ty 120 i0 Tryz.underlying51 hi g k cap cur hg ⟨gs,0,none⟩ 1 1 (held a n c q) (by rw[hz1];rfl) hnews h1 hroom (by rw[hz1,hl,hcs];omega);rw[hz1,hl] at hr
   have hcl:k*3<=cur.toList.length:=by rw[Array.length_toList,hcs];omega
   have hnew:=setRow_heap w g cur (cur.toList.take (k*3)++held a n c q++cur.toList.drop (k*3+1*3)).toArray 120 _ hg
   have hsz:(cur.toList.take (k*3)++held a n c q++cur.toList.drop (k*3+1*3)).toArray.size=cap*3:=by
    simp only[List.size_toArray,List.length_append,List.length_take,List.length_drop,Array.length_toList,hl,hcs];omega
   have ht1:(cur.toList.take (k*3)++held a n c q++cur.toList.drop (k*3+1*3)).take ((k+1)*3)=xs++held a n c q:=by
    rw[show(k+1)*3=k*3+1*3 by omega,take_mid hcl hl,htake]
   have ht0:(cur.toList.take (k*3)++held a n c q++cur.toList.drop (k*3+1*3)).take (k*3)=xs:=by
    have h3:=congrArg (List.take (k*3)) ht1;rw[List.take_take,Nat.min_eq_left (by omega),<- hxl,List.take_left] at h3;rw[<- hxl];exact h3
   refine⟨_,_,hr,⟨hlen,.inr ⟨g,cap,_,rfl,hbg,hnew,hroom,hcm,hsz,ht1⟩⟩,⟨?_,?_,?_⟩,.inl rfl⟩
   ·exact⟨rfl,rfl,rfl,by simp,fun q _ hq=>setRow_other w g q _ (fun e=>hq (by simp[Value.ownBlock,e]))⟩
   ·exact fun _=>⟨hxl,.inr ⟨g,cap,_,rfl,hbg,hnew,hnc,hcm,hsz,ht0⟩⟩
   ·intro x hx
    rcases hx.2 with ⟨_,h0⟩ | ⟨g',cap',cur',rfl,hbg',hg',hnc',hcm',hcs',htake'⟩
    ·omega
    ·refine⟨hlen,.inr ?_⟩;by_cases e:g'=g
     ·subst e
      have e2:cur'=cur:=by have:=hg'.symm.trans hg;simpa using this
      subst e2;exact⟨g',cap',_,rfl,hbg',hnew,hnc',hcm',by rw[hsz];omega,ht1⟩
     ·exact⟨g',cap',cur',rfl,hbg',(setRow_other w g g' _ e).trans hg',hnc',hcm',hcs',htake'⟩
  ·have holds:∀ j u,xs[j]?=some u->w.cell? ((⟨g,0,none⟩:Addr).add j)=some u:=h.cells (g:=g) rfl;have hr:=run_append_grow (P:=Tryz.prog) w 51 ty 120 i0 _ Tryz.underlying51 hi hz0 ⟨g,0,none⟩ k cap xs (by rw[hz1];exact hxl) holds ⟨gs,0,none⟩ 1 1 (held a n c q) (by rw[hz1];rfl) hnews (by omega) (by omega) (growslice_fits (by omega) (by rw[hz2];omega));have hgr:=fresh cap (by omega);exact⟨_,_,hr,hgr.1,GrT.grown hgr.2,.inr ⟨_,rfl,zj⟩⟩
def bkf2 (q:Nat) (v u:Value) (i:Nat):Value:=if i=0 then .int .i64 q else if i=2 then v else if i=6 then u else .slice none 0 0
structure Bk2 (w:World) (b base q k kt:Nat) (v u:Value) (xs ys:List Value):Prop where
 box:w.rowIs b 59 13 (bkf2 q v u)
 rowL:w.ownsRow base 127 3 v k xs
 rowT:w.ownsRow base 120 3 u kt ys
 neL:v.ownBlock≠some b
 neT:u.ownBlock≠some b
 vu:∀ g,v.ownBlock=some g->u.ownBlock≠some g
theorem Bk2.alloc {w:World} {b base q k kt:Nat} {v u:Value} {xs ys:List Value} (h:Bk2 w b base q k kt v u xs ys) (o:Obj):Bk2 (w.alloc o) b base q k kt v u xs ys:=⟨h.box.alloc o,h.rowL.alloc o,h.rowT.alloc o,h.neL,h.neT,h.vu⟩
end Book
namespace Limb
open Go.RowKit Go.Sort Go.Fresh
def cellN (w:World) (b i:Nat):Nat:=match w.cell? ⟨b,i,none⟩ with | some (.int _ g)=>g.toNat | _=>0
theorem cellN_own {w:World} {base g n cap i:Nat} {o:Nat->Int} (h:Own 128 w base (some ⟨g,0,none⟩) n cap o) (hi:i<n):cellN w g i=(o i).toNat:=by
 unfold cellN;rw[h.cell hi]
theorem Own.only {T:Nat} {w w':World} {g base:Nat} {a:Option Addr} {n cap:Nat} {o:Nat->Int} (h:Own T w base a n cap o) (ho:Only g w w') (hg:∀ p,a=some p->p.block≠g):Own T w' base a n cap o :=
 h.keep fun p hp=>ho.1 _ (hg p hp)
theorem append_full_run (g k:Nat) (a:Option Addr) (n cap:Nat) (o:Nat->Int) (w:World) (base ty:Nat) (hz:Own 128 w base (some ⟨g,0,none⟩) k k (fun _=>0)) (h:Rd w a n o) (hn:n<=100000000) (hk:k<=100000000) (h0:0<n) :
  ∃ g' cap' w',(Builtin.append_ #[28,28] ty #[.slice (some ⟨g,0,none⟩) k k,.slice a n cap]).run Tryz.prog w=.ok (.slice (some ⟨g',0,none⟩) (k+n) cap') w'/\Own 128 w' w.heap.size (some ⟨g',0,none⟩) (k+n) cap' (shiftF o k)/\Below w.heap.size w w':=by
 obtain⟨i0,hi,hz0,hz1,hz2⟩:=info_parts info32;obtain⟨b,off,rfl,hc⟩:=h.cells h0
 have hr:=run_append_grow (P:=Tryz.prog) w 28 ty 128 i0 (.int .u32 0) Tryz.underlying28 hi hz0 ⟨g,0,none⟩ k k (ucs (fun _=>0) k) (by rw[ucs_len,hz1];omega)
  (fun j u hj=>by
   obtain⟨hjn,rfl⟩:=ucs_get' hj;rw[Addr.add_lit,Nat.zero_add]
   exact hz.cell hjn) ⟨b,off,none⟩ n cap (ucs o n) (by rw[ucs_len,hz1];omega)
  (fun j u hj=>by
   obtain⟨hjn,rfl⟩:=ucs_get' hj;rw[Addr.add_lit]
   exact hc j hjn) (by omega) (by omega) (growslice_fits (by omega) (by rw[hz2];omega))
 have hge:=grownCap_ge w (k+n) k 128;refine⟨_,_,_,hr,⟨by omega,Or.inr ⟨w.heap.size,_,rfl,zj,heap_alloc_new w.drew _,?_,?_⟩,?_⟩,(Below.refl _ w).drew.alloc zj _⟩
 ·simp only[Array.size_append,List.size_toArray,size_zeroCells,ucs_len];show _<=k+n+(grownCap w (k+n) k 128-(k+n))*1;omega
 ·intro i hi';rw[Array.getElem?_append_left (by simp only[Array.size_append,List.size_toArray,ucs_len];exact hi')];show _=some (Value.int .u32 (shiftF o k i));by_cases hik:i<k
  ·have e:shiftF o k i=0:=by unfold shiftF;rw[if_pos hik]
   rw[Array.getElem?_append_left (by simp only[List.size_toArray,ucs_len];exact hik),e]
   simpa using ucs_get (fun _=>0) k i hik
  ·have e:shiftF o k i=o (i-k):=by unfold shiftF;rw[if_neg hik]
   rw[Array.getElem?_append_right (by simp only[List.size_toArray,ucs_len];omega),e];simp only[List.size_toArray,ucs_len,List.getElem?_toArray];exact ucs_get o n (i-k) (by omega)
 ·intro i hi';unfold shiftF;split
  ·omega
  ·exact h.rng _ (by omega)
theorem wpList_append_run {P:Program} {w:World} {ops:Array Oper} {rest:List Oper} {o:Oper} {a:Act} {Q:Exit->Act->World->Prop} (hgd:o.guard=none) (s x:Operand) (t:TypeId)
  (ho:o.op=.call { callee:=.builtin .append,args:=#[s,x],argTypes:=#[t,t] }) (v u:Value) (hs:a.eval s=v) (hx:a.eval x=u) (r:Value) (w':World)
  (hr:(Builtin.append_ #[t,t] o.type #[v,u]).run P w=.ok r w') (h:wpList P ops Q rest (a.put o.dst r) w'):wpList P ops Q (o :: rest) a w :=
 wpList_plain hgd fun K hK=>by
  unfold Oper.wp execOp;simp only[ho,resolve,invoke,builtin,Sem.run_bind,Sem.run_pure,Result.andThen_ok,List.map_toArray,List.map_cons,List.map_nil,hs,hx,hr];exact hK _ _ h
def GoesR (w:World) (A B:Nat) (e:Ending) (w':World):Prop :=
 ∃ a1 K1 c1 o1 a2 K2 c2 o2,e=.returned (.tuple #[.slice a1 K1 c1,.slice a2 K2 c2])/\AmtO w' w.heap.size a1 K1 c1 (A/B) o1/\AmtO w' w.heap.size a2 K2 c2 (A%B) o2/\Apart2 a1 a2/\Below w.heap.size w w'
structure GoesW (w wr:World) (gl gq la cl:Nat) (lp qp:Nat->Int):Prop where
 l:Own 128 wr w.heap.size (some ⟨gl,0,none⟩) la cl lp
 q:Own 128 wr w.heap.size (some ⟨gq,0,none⟩) (la+1) (la+1) qp
 bel:Below w.heap.size w wr
theorem GoesW.below {w wr w':World} {gl gq la cl:Nat} {lp qp:Nat->Int} (h:GoesW w wr gl gq la cl lp qp) (hb:Below wr.heap.size wr w'):GoesW w w' gl gq la cl lp qp:=⟨h.l.below hb,h.q.below hb,h.bel.trans (hb.mono h.bel.size)⟩
theorem own_ofk {T j b x:Nat} {o:Nat->Int} {w:World} (h:∃ y:Nat,Value.slice (some ⟨x,0,none⟩) j j=.slice (some ⟨y,0,none⟩) j j/\Own T w b (some ⟨y,0,none⟩) j j o):Own T w b (some ⟨x,0,none⟩) j j o:=by
 obtain⟨y,e,h⟩:=h;simp only[Value.slice.injEq,Option.some.injEq,Addr.mk.injEq,and_true] at e;rw[e];exact h
theorem own_ofc {T j b:Nat} {x:Nat × Nat} {o:Nat->Int} {w:World} (h:∃ y:Nat × Nat,Value.slice (some ⟨x.1,0,none⟩) j x.2=.slice (some ⟨y.1,0,none⟩) j y.2/\Own T w b (some ⟨y.1,0,none⟩) j y.2 o):Own T w b (some ⟨x.1,0,none⟩) j x.2 o:=by
 obtain⟨y,e,h⟩:=h;simp only[Value.slice.injEq,Option.some.injEq,Addr.mk.injEq,and_true,true_and] at e;rw[e.1,e.2];exact h
theorem own_ofn {T j b:Nat} {s:Bool} {x:Nat × Nat} {o:Nat->Int} {w:World} (h:∃ y:Nat × Nat,numV s (some ⟨x.1,0,none⟩) j x.2=numV s (some ⟨y.1,0,none⟩) j y.2/\Own T w b (some ⟨y.1,0,none⟩) j y.2 o):Own T w b (some ⟨x.1,0,none⟩) j x.2 o:=by
 obtain⟨y,e,h⟩:=h;simp only[numV,Value.agg.injEq,Array.mk.injEq,List.cons.injEq,Value.slice.injEq,Option.some.injEq,Addr.mk.injEq,and_true,true_and] at e;rw[e.1,e.2];exact h
theorem goes_any (A B:Nat) (a b:Option Addr) (la lb ca cb:Nat) (w:World) (ha:Rd w a la (dgi A)) (hb:Rd w b lb (dgi B)) (hla:la=lenB A) (hlb:lb=lenB B) (hna:la<=10000000) (hnb:lb<=10000000) (hB:0<B) :
  Calls Tryz.prog 247 #[.slice a la ca,.slice b lb cb] w (GoesR w A B):=by
 have hsA:sumB (dgi A) la=(A:Int):=by rw[hla];exact sumB_dgi A
 have hsB:sumB (dgi B) lb=(B:Int):=by rw[hlb];exact sumB_dgi B
 have HS:=qh (And.intro hsA hsB)
 have hlb0:0<lb:=by rw[hlb];exact pos_of_len.2 hB
 have HR:=qh (And.intro ha hb);have HL:=qh (And.intro hla hlb);have HBP:=qh hB;clear hsA hsB ha hb hla hlb hB;by_cases hone:lb=1
 ·subst hone;obtain⟨bb,bo,rfl,hcell⟩:=HR.o.2.cells (by omega)
  have e0:B<1000000000:=by have:=lt_pw_lenB B;rw[<- HL.o.2] at this;exact this
  have e1:dgi B 0=(B:Int):=by show((dg B 0:Nat):Int)=_;rw[dg_zero];omega
  have cc:w.cell? ⟨bb,bo,none⟩=some (.int .u32 (B:Int)):=by have:=hcell 0 (by omega);rw[Nat.add_zero] at this;rw[this];show some (Value.int .u32 (dgi B 0))=_;rw[e1]
  have SM:=qh (small_any a la ca (dgi A) (B:Int) w HR.o.1 (dgi_Dig _ _) (by omega) (by have:=HBP.o;omega) (by omega));rw[HS.o.1] at SM;have HN:=qh e0;clear e0 e1 hcell;go_enter Tryz.func247,Tryz.ntmps247;go_wp2_with fail
  refine SM.o.mono ?_;rintro e w4 ⟨p,rfl,d1,d2,d3,hb4⟩;have HO:=qh (And.intro d1 (And.intro d2 (And.intro d3 hb4)));clear d1 d2 d3 hb4 SM;go_wp2_with fail
  go_ret2;have hgl:=(HO.o.2.2.1.blk rfl).2.2;dsimp only at hgl;have hr0:0<=(A:Int)%(B:Int)/\(A:Int)%(B:Int)<1000000000:=⟨Int.emod_nonneg _ (by have:=HBP.o;omega),by have:=Int.emod_lt_of_pos (A:Int) (b:=(B:Int)) (by have:=HBP.o;omega);have:=HN.o;omega⟩
  refine⟨some ⟨w.heap.size,0,none⟩,la,la,p,some ⟨w4.heap.size,0,none⟩,1,1,fun _=>(A:Int)%(B:Int),rfl,⟨HO.o.2.2.1.allocd _,HO.o.1,by rw[HO.o.2.1];exact(Int.natCast_ediv _ _).symm,by omega,fun h=>by cases h⟩,
   ⟨Own.of_rowIs (row_one w4 _ _) HO.o.2.2.2.size (fun i hi=>by omega),fun i hi=>hr0,?_,by omega,fun h=>by cases h⟩,(fun p q hp hq=>by cases hp;cases hq;dsimp only;omega),HO.o.2.2.2.alloc HO.o.2.2.2.size _⟩
  show 0+(A:Int)%(B:Int)*((pw 0:Nat):Int)=_;rw[pw_zero,Int.natCast_emod];omega
 ·obtain⟨al,cl,wl,hrl,hol,hnl,hbl⟩:=append_nil_run a la ca (dgi A) w w.heap.size 28 HR.o.1 (by omega) zj;have hmk:=run_make_row' (P:=Tryz.prog) 28 128 (.int .u32 0) 4 Tryz.underlying28 info32 rfl .i64 .i64 (la+1) (by omega) (by omega);have x1:=IntWalk.i64_in ((la:Int)+1) (by omega);have x2:=IntWalk.i64_in ((la:Int)-(lb:Int)) (by omega)
  have ecast:((la+1:Nat):Int)=(la:Int)+1:=by omega
  rw[ecast] at hmk
  have hone1:((lb:Int)==1)=false:=by simp;omega
  have HOL:=qh (And.intro hol (And.intro hnl hbl));clear hol hnl hbl;have hrl':=qh hrl;clear hrl;go_enter Tryz.func247,Tryz.ntmps247;go_wp2_with (at_builtin;refine wpList_append_run rfl _ _ 28 rfl _ _ rfl rfl _ _ hrl'.o ?_)
  go_wp2_with fail
  obtain⟨W,hW⟩:∃ W,W=wl.alloc (.cells (madeCells #[Value.int IntKind.u32 0] (la+1)) 128):=⟨_,rfl⟩
  have hqo:Own 128 W w.heap.size (some ⟨wl.heap.size,0,none⟩) (la+1) (la+1) (fun _=>0):=by rw[hW];exact Own.of_rowIs (World.rowIs_made wl (.int .u32 0) (la+1) 128) HOL.o.2.2.size (fun i hi=>by omega)
  have hlo:Own 128 W w.heap.size al la cl (dgi A):=by rw[hW];exact HOL.o.1.allocd _
  have hbW:Below w.heap.size w W:=by rw[hW];exact HOL.o.2.2.alloc HOL.o.2.2.size _
  have hne:∀ p,al=some p->p.block<wl.heap.size:=fun p hp=>(HOL.o.1.blk hp).2.2
  rw[show wl.alloc (.cells (madeCells #[Value.int IntKind.u32 0] (la+1)) 128)=W from hW.symm];have HQ:=qh hqo;have HLO:=qh hlo;have HBW:=qh hbW;have HNE:=qh hne;obtain⟨gq,hgq⟩:∃ gq,gq=wl.heap.size:=⟨_,rfl⟩;rw[<- hgq] at HQ HNE ⊢;clear hW hqo hlo hbW hne hgq hmk;by_cases hll:la<lb
  ·have hk0:¬(0:Int)<=(la:Int)-(lb:Int):=by omega
   have hAB:A<B:=cmp_len (by rw[<- HL.o.1,<- HL.o.2];exact hll);have HAB:=qh hAB;clear hAB;go_loopw [10] (fun kv wr=>kv=.int .i64 ((la:Int)-(lb:Int))/\wr=W) (fun _ _=>0)
   case atStart=>exact⟨rfl,rfl⟩
   case round =>
    obtain⟨rfl,rfl⟩:=hrel;go_wp2_with fail
    go_ret2
    exact⟨some ⟨gq,0,none⟩,la+1,la+1,fun _=>0,al,la,cl,dgi A,rfl,⟨HQ.o,fun i hi=>by omega,by rw[sumB_zero (fun _ _=>rfl),Nat.div_eq_of_lt HAB.o];rfl,by omega,fun h=>by cases h⟩,⟨HLO.o,dgi_Dig _ _,by rw[HS.o.1,Nat.mod_eq_of_lt HAB.o],by omega,HOL.o.2.1⟩,
     (fun p q hp hq=>by cases hp;have:=HNE.o q hq;dsimp only;omega),HBW.o⟩
  ·obtain⟨gl,rfl⟩:∃ gl,al=some ⟨gl,0,none⟩:=by
    rcases HLO.o.place with ⟨_,h,_⟩ | ⟨g,cur,h,_⟩
    ·omega
    ·exact⟨g,h⟩
   have hglq:gl<gq:=HNE.o _ rfl;obtain⟨n,hn⟩:∃ n,lb=n+1:=⟨lb-1,by omega⟩;obtain⟨M,hM⟩:∃ M,M+lb=la+1:=⟨la+1-lb,by omega⟩
   have hB0:0<(B:Int):=by have:=HBP.o;omega
   have hst:GoesOut (A:Int) (B:Int) la M (dgi A) (fun _=>0):=by
    have h:=GoesOut.start (la:=la) (kk:=M) (B:=(B:Int)) (lp:=dgi A) (dgi_Dig _ _) (by
     rw[HS.o.1];have h1:=lt_pw_lenB A;rw[<- HL.o.1] at h1;have h2:pw n<=B:=pw_le_of_lenB (by rw[<- HL.o.2];omega)
     have h3:pw la=pw n*pw M:=by rw[<- pw_add];congr 1;omega
     have h4:pw n*pw M<=B*pw M:=Nat.mul_le_mul_right _ h2
     rw[<- Int.natCast_mul];omega)
    rw[HS.o.1] at h;exact h
   have HM:=qh hM;have HST:=qh hst;have HGL:=qh hglq;have HNN:=qh hn;have HB0:=qh hB0
   have hM1:(la:Int)-(lb:Int)=(M:Int)-1:=by omega
   have htop:0<dgi B n:=by
    have h:=dg_last (m:=B) (by have:=HBP.o;omega);rw[<- HL.o.2,hn,Nat.add_sub_cancel] at h;show(0:Int)<((dg B n:Nat):Int);omega
   have HTP:=qh htop;rw[hM1];clear hM hst hn hB0 hM1 htop x2;go_loopw [10] (fun kv wr=>∃ (kk:Nat) (lp qp:Nat->Int),kk<=M/\kv=.int .i64 ((kk:Int)-1)/\GoesOut (A:Int) (B:Int) la kk lp qp/\GoesW w wr gl gq la cl lp qp) (fun kv _=>(intOf kv+1).toNat)
   case atStart=>exact⟨M,dgi A,fun _=>0,zj,rfl,HST.o,HLO.o,HQ.o,HBW.o⟩
   case round =>
    obtain⟨kk,lp,qp,hkk,rfl,hG,hWr⟩:=hrel;obtain⟨wo,rfl⟩:∃ wo:World,wo=wr:=⟨_,rfl⟩;have KG:=qh hG;have KW:=qh hWr;clear hG hWr;by_cases hk0:kk=0
    ·subst hk0;rw[show(((0:Nat):Int)-1) = -1 from rfl];obtain⟨d1,d2⟩:=KG.o.done HB0.o;have HD:=qh (And.intro d1 d2);clear d1 d2;go_wp2_with fail
     go_ret2
     exact⟨some ⟨gq,0,none⟩,la+1,la+1,qp,some ⟨gl,0,none⟩,la,cl,lp,rfl,⟨KW.o.q,KG.o.dq,by rw[HD.o.1];exact(Int.natCast_ediv _ _).symm,by omega,fun h=>by cases h⟩,
      ⟨KW.o.l,KG.o.dl,by rw[HD.o.2];exact(Int.natCast_emod _ _).symm,by omega,fun h=>by cases h⟩,(fun p q hp hq=>by cases hp;cases hq;have:=HGL.o;dsimp only;omega),KW.o.bel⟩
    ·obtain⟨j,rfl⟩:∃ j,kk=j+1:=⟨kk-1,by omega⟩;rw[show(((j+1:Nat):Int)-1)=(j:Int) by omega];go_wp2_with fail
     go_loopw [11] (fun ov wr=>(∃ v:Value,ov=v)/\∃ (lp qp:Nat->Int),GoesIn (A:Int) (B:Int) la j lp qp/\GoesW w wr gl gq la cl lp qp) (fun _ wr=>1000000000-cellN wr gq j)
     case atStart=>exact⟨⟨_,rfl⟩,lp,qp,KG.o.inner,KW.o⟩
     case round =>
      obtain⟨⟨ov,rfl⟩,lp2,qp2,hI,hW2⟩:=hrel;obtain⟨wi,rfl⟩:∃ wi:World,wi=wr:=⟨_,rfl⟩;have KI:=qh hI;have KW2:=qh hW2;have HMI:=qh (cellN_own hW2.q (i:=j) (by have:=HM.o;omega))
      have hjl:j+lb<=la:=by have:=HM.o;omega
      obtain⟨v,hv⟩:∃ v,v=dgi B n:=⟨_,rfl⟩;obtain⟨T,hT⟩:∃ T,T=topF lp2 la (j+n):=⟨_,rfl⟩;obtain⟨g,hg⟩:∃ g,g=T/(v+1):=⟨_,rfl⟩;have hgr:=goes_round (m:=n) (dgi_Dig B lb) HNN.o HTP.o (by rw[HS.o.2];exact hI) hjl (by rw[HS.o.2];exact HB0.o);rw[<- hv,<- hT,<- hg,HS.o.2] at hgr;obtain⟨hg0,hg1,hgL⟩:=hgr
      have hTb:0<=T/\T<=999999999999999999:=by rw[hT];exact topF_bd hI.dl
      have hvb:0<v/\v<=999999999:=by rw[hv];exact⟨HTP.o,by have:=dgi_Dig B (n+1) n (by omega);omega⟩
      have TOPC:=qh (fun (w':World) (hb:Below wi.heap.size wi w')=>top_any (some ⟨gl,0,none⟩) la cl (j+n) lp2 w' (hW2.l.below hb).rd hI.dl (by omega) (by have:=HNN.o;omega))
      have earg:(((j+n:Nat):Int)+1)=(j:Int)+(lb:Int):=by have:=HNN.o;omega
      rw[earg,<- hT] at TOPC;obtain⟨bb,bo,rfl,hcb⟩:=(HR.o.2.below hW2.bel).cells (by omega)
      have cb1:wi.cell? ⟨bb,bo+n,none⟩=some (.int .u32 v):=by rw[hv];exact hcb n (by have:=HNN.o;omega)
      have hbbl:bb<w.heap.size:=by obtain⟨b2,o2,e2,h2⟩:=HR.o.2.cells (by omega);cases e2;exact block_lt_of_cell (h2 0 (by omega))
      have HBL:=qh hbbl;have HC1:=qh (fun (w':World) (hb:Below wi.heap.size wi w')=>((bcell hb).1 bb (bo+n) (block_lt_of_cell cb1)).trans cb1);have xj:=IntWalk.i64_in ((j:Int)+(lb:Int)) (by omega)
      have xn:(lb:Int)-1=(n:Int):=by have:=HNN.o;omega
      have xn2:=IntWalk.i64_in (n:Int) (by omega)
      have xn3:(0:Int)<=(n:Int):=by omega
      have hnl:(n:Int)<(lb:Int):=by omega
      have hnl2:n<lb:=by omega
      have wv:=IntWalk.u64_in v (by omega);have wv1:=IntWalk.u64_in (v+1) (by omega)
      have hv1:¬v+1=0:=by omega
      have tq:T.tdiv (v+1)=g:=by rw[hg];exact Int.tdiv_eq_ediv_of_nonneg hTb.1
      have wg:=IntWalk.u64_in g (by omega);have HGL2:=qh hgL;have HG01:=qh (And.intro hg0 hg1);clear hI hW2 hv hT hg hgL hTb hcb hbbl earg
      go_upto_region 10 with (fail)
      refine wp_region_fresh 15 (spOf [(5,Sp.know (.int .u64 T))]) (fun w'=>Below wi.heap.size wi w') (by kernel_rfl) (by kernel_rfl)
       (spOf_cons (Sp.know_keeps _) spOf_nil) (fun _ _ h hb=>h.trans (hb.mono h.size)) (zk.drew) ?_
      simp only[zx,zy,zv,zw]
      iterate 5
       (refine wpF_reads rfl rfl ?_ (fun w' hw'=>?_) ?_;rotate_left;· (have hb':=Has.world hw';(skip);clear hw';go_simp;try rfl))
       conv=>arg 9;simp only[Act.put,zq0,zq1,zq2]
      (refine wpF_spec rfl rfl (fun w' hw'=>?_) ?_;· (have hb':=Has.world hw';go_simp;((refine(TOPC.o w' hb').mono ?_;rintro e w'' ⟨rfl,rfl⟩;exact⟨_,rfl,rfl,zk⟩))))
      rintro _ rfl
      conv=>arg 9;simp only[Act.put,zq0,zq1,zq2]
      iterate 9
       (refine wpF_reads rfl rfl ?_ (fun w' hw'=>?_) ?_;rotate_left;· (have hb':=Has.world hw';(have hs:=HC1.o _ hb');clear hw';go_simp;try rfl))
       conv=>arg 9;simp only[Act.put,zq0,zq1,zq2]
      refine wpF_nil (fun w1 hb1 hF=>?_);have KW2:=qh (KW2.o.below hb1);clear hF hb1 TOPC HC1 cb1 xn2 xn3 xn wv wv1 hv1 tq hnl hnl2 xj
      go_upto_region 11 with (fail)
      by_cases hgz:g=0
      ·subst hgz;obtain⟨LN,hLN⟩:∃ LN:Nat,(LN:Int)=sumB lp2 la:=⟨(sumB lp2 la).toNat,by have:=(sumB_bd KI.o.dl).1;omega⟩;obtain⟨DN,hDN⟩:∃ DN:Nat,DN=B*pw j:=⟨_,rfl⟩
       have hDs:sumB (shiftF (dgi B) j) (j+lb)=(DN:Int):=by rw[shiftF_sum,HS.o.2,hDN,Int.natCast_mul]
       have hLL:lenB LN<=la:=by
        have h:=lenB_le_of KI.o.dl;rw[<- hLN,Int.toNat_natCast] at h;exact h
       have hDL:lenB DN<=j+lb:=by
        have h:=lenB_le_of (shiftF_Dig (k:=j) (dgi_Dig B lb));rw[hDs,Int.toNat_natCast] at h;exact h
       have hmk:=run_make_row' (P:=Tryz.prog) 28 128 (.int .u32 0) 4 Tryz.underlying28 info32 rfl .i64 .i64 j (by omega) (by omega);have NUM1:=qh (fun (w':World) (hb:Below w1.heap.size w1 w')=>num_own false false (some ⟨gl,0,none⟩) la cl LN w.heap.size lp2 w' (KW2.o.l.below hb) KI.o.dl (by omega) hLN.symm rfl);have NUM2:=qh (fun (w':World) (x:Nat × Nat) (ho:Own 128 w' w1.heap.size (some ⟨x.1,0,none⟩) (j+lb) x.2 (shiftF (dgi B) j))=>num_own false false (some ⟨x.1,0,none⟩) (j+lb) x.2 DN w1.heap.size (shiftF (dgi B) j) w' ho (shiftF_Dig (dgi_Dig B lb)) (by omega) hDs rfl);obtain⟨cz,hcz⟩:∃ cz,cz=cmpZ (LN:Int) (DN:Int):=⟨_,rfl⟩;have ORD:=qh (fun (w':World) (hb:Below w1.heap.size w1 w') (x:Nat × Nat) (ho:Own 128 w' w1.heap.size (some ⟨x.1,0,none⟩) (lenB DN) x.2 (dgi DN))=>order_any LN DN (some ⟨gl,0,none⟩) (some ⟨x.1,0,none⟩) cl x.2 w' (own_fit (KW2.o.l.below hb) KI.o.dl hLN.symm).rd ho.rd (by omega) (by omega));rw[<- hcz] at ORD;have HLN:=qh (And.intro hLN hDN);have HCZ:=qh hcz;have HDS:=qh hDs;clear hLN hDN hcz hDs
       refine wp_region_fresh 14 (spOf [(4,Sp.know (numV false (some ⟨gl,0,none⟩) (lenB LN) cl)),(7,Sp.made (fun x:Nat=>.slice (some ⟨x,0,none⟩) j j) (fun x w'=>Own 128 w' w1.heap.size (some ⟨x,0,none⟩) j j (fun _=>0))),
         (9,Sp.made (fun x:Nat × Nat=>.slice (some ⟨x.1,0,none⟩) (j+lb) x.2) (fun x w'=>Own 128 w' w1.heap.size (some ⟨x.1,0,none⟩) (j+lb) x.2 (shiftF (dgi B) j))),
         (10,Sp.made (fun x:Nat × Nat=>numV false (some ⟨x.1,0,none⟩) (lenB DN) x.2) (fun x w'=>Own 128 w' w1.heap.size (some ⟨x.1,0,none⟩) (lenB DN) x.2 (dgi DN))),(12,Sp.know (.int .i64 cz))]) (fun w'=>Below w1.heap.size w1 w') (by kernel_rfl) (by kernel_rfl)
        (spOf_cons (Sp.know_keeps _) (spOf_cons (Sp.made_keeps fun x w w' h hb=>h.below hb) (spOf_cons (Sp.made_keeps fun x w w' h hb=>h.below hb) (spOf_cons (Sp.made_keeps fun x w w' h hb=>h.below hb) (spOf_cons (Sp.know_keeps _) spOf_nil))))) (fun _ _ h hb=>h.trans (hb.mono h.size)) (zk.drew) ?_
       simp only[zx,zy,zv,zw]
       iterate 3
        (refine wpF_reads rfl rfl ?_ (fun w' hw'=>?_) ?_;rotate_left;· (have hb':=Has.world hw';(skip);clear hw';go_simp;try rfl))
        conv=>arg 9;simp only[Act.put,zq0,zq1,zq2]
       (refine wpF_readsG (by rfl) rfl ?_ (fun w' hw'=>?_) ?_;rotate_left;· (have hb':=Has.world hw';(skip);clear hw';go_simp;try rfl))
       conv=>arg 9;simp only[Act.put,zq0,zq1,zq2]
       (refine wpF_gspec (by rfl) rfl (fun w' hw'=>?_) ?_;· (have hb':=Has.world hw';go_simp;((refine(NUM1.o w' hb').mono ?_;rintro e w'' ⟨rfl,hb⟩;exact⟨_,rfl,rfl,hb⟩))))
       rintro _ rfl
       conv=>arg 9;simp only[Act.put,zq0,zq1,zq2]
       iterate 2
        (refine wpF_readsG (by rfl) rfl ?_ (fun w' hw'=>?_) ?_;rotate_left;· (have hb':=Has.world hw';(have hs:=field_num false (some ⟨gl,0,none⟩) (lenB LN) cl w');clear hw';go_simp;try rfl))
        conv=>arg 9;simp only[Act.put,zq0,zq1,zq2]
       (refine wpF_gspec (by rfl) rfl (fun w' hw'=>?_) ?_;· (have hb':=Has.world hw';go_simp;((exact⟨Own.of_rowIs (World.rowIs_made w' (.int .u32 0) j 128) hb'.size (fun i hi=>by omega),zk.alloc zj _⟩))))
       rintro _ ⟨mx,rfl⟩
       conv=>arg 9;simp only[Act.put,zq0,zq1,zq2]
       (refine wpF_readsG (by rfl) rfl ?_ (fun w' hw'=>?_) ?_;rotate_left;· (have hb':=Has.world hw';(skip);clear hw';go_simp;try rfl))
       conv=>arg 9;simp only[Act.put,zq0,zq1,zq2]
       refine wpF_gspec (by rfl) rfl (fun w' hw'=>?_) ?_
       ·have hb':=hw'.world;have h7:=own_ofk (T:=128) (b:=w1.heap.size) (hw'.fact 7 (by kernel_rfl));obtain⟨g',cap',w'',hrun,ho,hb⟩:=append_full_run mx j (some ⟨bb,bo,none⟩) lb cb (dgi B) w' w1.heap.size 28 h7 ((HR.o.2.below KW2.o.bel).below hb') (by omega) (by omega) hlb0;exact gives_append _ _ 28 rfl rfl rfl hrun ⟨⟨⟨(g',cap'),rfl⟩,⟨(g',cap'),rfl,ho.mono hb'.size⟩⟩,hb⟩
       rintro _ ⟨ax,rfl⟩
       conv=>arg 9;simp only[Act.put,zq0,zq1,zq2]
       (refine wpF_gspec (by rfl) rfl (fun w' hw'=>?_) ?_;· (have hb':=Has.world hw';go_simp;((have h9:=own_ofc (T:=128) (b:=w1.heap.size) (hw'.fact 9 (by kernel_rfl));refine(NUM2.o w' ax h9).mono ?_;rintro e w'' ⟨rfl,hb⟩;exact⟨_,rfl,⟨⟨ax.1,ax.2,rfl⟩,⟨ax.1,ax.2,rfl,own_fit (h9.below hb) (shiftF_Dig (dgi_Dig B lb)) HDS.o⟩⟩,hb⟩))))
       rintro _ ⟨nx,rfl⟩
       conv=>arg 9;simp only[Act.put,zq0,zq1,zq2]
       (refine wpF_readsG (by rfl) rfl ?_ (fun w' hw'=>?_) ?_;rotate_left;· (have hb':=Has.world hw';(have hs:=field_num false (some ⟨nx.1,0,none⟩) (lenB DN) nx.2 w');clear hw';go_simp;try rfl))
       conv=>arg 9;simp only[Act.put,zq0,zq1,zq2]
       (refine wpF_gspec (by rfl) rfl (fun w' hw'=>?_) ?_;· (have hb':=Has.world hw';go_simp;((have h10:=own_ofn (T:=128) (b:=w1.heap.size) (hw'.fact 10 (by kernel_rfl));refine(ORD.o w' hb' nx h10).mono ?_;rintro e w'' ⟨rfl,m,rfl⟩;exact⟨_,rfl,rfl,bdrewN zk m⟩))))
       rintro _ rfl
       conv=>arg 9;simp only[Act.put,zq0,zq1,zq2]
       (refine wpF_readsG (by rfl) rfl ?_ (fun w' hw'=>?_) ?_;rotate_left;· (have hb':=Has.world hw';(skip);clear hw';go_simp;try rfl))
       conv=>arg 9;simp only[Act.put,zq0,zq1,zq2]
       refine wpF_nil (fun w2 hb2 hF=>?_);have KW2:=qh (KW2.o.below hb2);clear hF hb2 NUM1 NUM2 ORD hmk;by_cases hbr:cz<0
       ·have hlt:sumB lp2 la<(B:Int)*(pw j:Int):=by
         have h:=HCZ.o;rw[<- HLN.o.1,<- Int.natCast_mul,<- HLN.o.2]
         rcases Int.lt_or_le (LN:Int) (DN:Int) with h1 | h1
         ·exact h1
         ·exfalso
          rcases Int.lt_or_le (DN:Int) (LN:Int) with h2 | h2
          ·rw[cmpZ_gt h2] at h;omega
          ·rw[cmpZ_eq (by omega)] at h;omega
        have KO:=qh (KI.o.outer hlt);have xj1:=IntWalk.i64_in ((j:Int)-1) (by omega);clear hlt;go_wp2_with fail
        go_roundw
        case rel=>exact⟨j,lp2,qp2,by have:=HM.o;omega,rfl,KO.o,KW2.o⟩
        case measure=>first | (simp[intOf];omega) | (simp[intOf];done)
       ·have hbr1:decide (cz<0)=false:=zo hbr
        have HGL2:=qh (show 1*(B:Int)*(pw j:Int)<=sumB lp2 la by
         have h:=HCZ.o;rw[Int.one_mul,<- HLN.o.1,<- Int.natCast_mul,<- HLN.o.2]
         rcases Int.lt_or_le (LN:Int) (DN:Int) with h1 | h1
         ·rw[cmpZ_lt h1] at h;omega
         ·exact h1)
        have HGG:=qh (show 0<(1:Int)/\(1:Int)<=999999999 from by omega)
        have hla':la=j+(la-j):=by omega
        have TK:=qh (takes_any gl la cl w.heap.size j lb cb (la-j) (some ⟨bb,bo,none⟩) lp2 (dgi B) 1 w2 KW2.o.l (HR.o.2.below KW2.o.bel) (fun _ q hq=>by cases hq;have h1:=HBL.o;have h2:=(KW2.o.l.blk rfl).2.1;dsimp only at *;omega)
         KI.o.dl (dgi_Dig _ _) hla' (by omega) (by omega) (by have:=HGG.o;omega))
        have HTS:=qh (takeF_sum (p:=lp2) (ob:=dgi B) (lb:=lb) (at':=j) (m:=la-j) (often:=1) (by rw[<- hla'];exact KI.o.dl) (by omega) (by rw[HS.o.2];exact Int.mul_nonneg (by have:=HGG.o;omega) (by have:=HB0.o;omega)) (by rw[HS.o.2,<- hla'];exact HGL2.o));rw[HS.o.2,<- hla'] at HTS;have STP:=qh (KI.o.step (g:=1) HB0.o (by omega) (by have:=HGG.o;omega) (takeF_Dig KI.o.dl) HTS.o);clear hla';go_wp2_with fail
        refine TK.o.mono ?_;rintro e w3 ⟨rfl,hl3,hon3,hb3⟩;have hq3:=KW2.o.q.only hon3 (fun p hp=>by cases hp;have:=HGL.o;dsimp only;omega);have cq:w3.cell? ⟨gq,j,none⟩=some (.int .u32 (qp2 j)):=hq3.cell (by omega);have fq:=hq3.fz;have hqj:=KI.o.dq j (by omega);have hqG:=STP.o.1;have hGb:=HGG.o;have ug:=IntWalk.u32_in 1 (by omega);have uq:=IntWalk.u32_in (qp2 j+1) (by omega);have HL3:=qh hl3;have HQ3:=qh hq3;have HB3:=qh (KW2.o.bel.trans hb3);have HQB:=qh (And.intro hqj hqG)
        have hjq:(j:Int)<(la:Int)+1:=by omega
        have hjq2:j<la+1:=by omega
        clear hl3 hon3 hb3 hq3 TK hqj hqG;go_wp2_with fail
        go_roundw
        case rel =>
         have h2:=(HQ3.o.blk rfl).2.1;dsimp only at h2;exact⟨⟨_,rfl⟩,_,_,STP.o.2,HL3.o.keep (fun p hp=>Below.heap_setCell _ _ _ _ (by cases hp;have:=HGL.o;dsimp only;omega)),HQ3.o.put hjq2 (by have:=HQB.o;omega),HB3.o.setCell h2 _⟩
        case measure =>
         have h3:=cellN_own (HQ3.o.put (t:=j) (v:=qp2 j+1) hjq2 (by have:=HQB.o;omega)) (i:=j) hjq2;rw[upd_same] at h3;rw[h3,HMI.o];have:=HQB.o;omega
      ·have hgz1:(g==0)=false:=by simpa using hgz
       refine wp_region_fresh 14 (spOf []) (fun w'=>Below w1.heap.size w1 w') (by kernel_rfl) (by kernel_rfl) spOf_nil (fun _ _ h hb=>h.trans (hb.mono h.size)) (zk.drew) ?_;simp only[zx,zy,zv,zw]
       iterate 3
        (refine wpF_reads rfl rfl ?_ (fun w' hw'=>?_) ?_;rotate_left;· (have hb':=Has.world hw';(skip);clear hw';go_simp;try rfl))
        conv=>arg 9;simp only[Act.put,zq0,zq1,zq2]
       iterate 11 (refine wpF_skip (by rfl) ?_;conv=>arg 9;simp only[Act.put,zq0,zq1,zq2])
       refine wpF_nil (fun w2 hb2 hF=>?_);have KW2:=qh (KW2.o.below hb2);clear hF hb2;by_cases hgone:g=1
       ·subst hgone;have HGG:=qh (show 0<(1:Int)/\(1:Int)<=999999999 from by omega)
        have hla':la=j+(la-j):=by omega
        have TK:=qh (takes_any gl la cl w.heap.size j lb cb (la-j) (some ⟨bb,bo,none⟩) lp2 (dgi B) 1 w2 KW2.o.l (HR.o.2.below KW2.o.bel) (fun _ q hq=>by cases hq;have h1:=HBL.o;have h2:=(KW2.o.l.blk rfl).2.1;dsimp only at *;omega)
         KI.o.dl (dgi_Dig _ _) hla' (by omega) (by omega) (by have:=HGG.o;omega))
        have HTS:=qh (takeF_sum (p:=lp2) (ob:=dgi B) (lb:=lb) (at':=j) (m:=la-j) (often:=1) (by rw[<- hla'];exact KI.o.dl) (by omega) (by rw[HS.o.2];exact Int.mul_nonneg (by have:=HGG.o;omega) (by have:=HB0.o;omega)) (by rw[HS.o.2,<- hla'];exact HGL2.o));rw[HS.o.2,<- hla'] at HTS;have STP:=qh (KI.o.step (g:=1) HB0.o (by omega) (by have:=HGG.o;omega) (takeF_Dig KI.o.dl) HTS.o);clear hla';go_wp2_with fail
        refine TK.o.mono ?_;rintro e w3 ⟨rfl,hl3,hon3,hb3⟩;have hq3:=KW2.o.q.only hon3 (fun p hp=>by cases hp;have:=HGL.o;dsimp only;omega);have cq:w3.cell? ⟨gq,j,none⟩=some (.int .u32 (qp2 j)):=hq3.cell (by omega);have fq:=hq3.fz;have hqj:=KI.o.dq j (by omega);have hqG:=STP.o.1;have hGb:=HGG.o;have ug:=IntWalk.u32_in 1 (by omega);have uq:=IntWalk.u32_in (qp2 j+1) (by omega);have HL3:=qh hl3;have HQ3:=qh hq3;have HB3:=qh (KW2.o.bel.trans hb3);have HQB:=qh (And.intro hqj hqG)
        have hjq:(j:Int)<(la:Int)+1:=by omega
        have hjq2:j<la+1:=by omega
        clear hl3 hon3 hb3 hq3 TK hqj hqG;go_wp2_with fail
        go_roundw
        case rel =>
         have h2:=(HQ3.o.blk rfl).2.1;dsimp only at h2;exact⟨⟨_,rfl⟩,_,_,STP.o.2,HL3.o.keep (fun p hp=>Below.heap_setCell _ _ _ _ (by cases hp;have:=HGL.o;dsimp only;omega)),HQ3.o.put hjq2 (by have:=HQB.o;omega),HB3.o.setCell h2 _⟩
        case measure =>
         have h3:=cellN_own (HQ3.o.put (t:=j) (v:=qp2 j+1) hjq2 (by have:=HQB.o;omega)) (i:=j) hjq2;rw[upd_same] at h3;rw[h3,HMI.o];have:=HQB.o;omega
       ·have hmax:1<g:=by have:=HG01.o;omega
        have hmax2:¬g<1:=by omega
        have hmax3:¬g<=1:=by omega
        have HGG:=qh (show 0<g/\g<=999999999 from by have:=HG01.o;omega)
        have hla':la=j+(la-j):=by omega
        have TK:=qh (takes_any gl la cl w.heap.size j lb cb (la-j) (some ⟨bb,bo,none⟩) lp2 (dgi B) g w2 KW2.o.l (HR.o.2.below KW2.o.bel) (fun _ q hq=>by cases hq;have h1:=HBL.o;have h2:=(KW2.o.l.blk rfl).2.1;dsimp only at *;omega)
         KI.o.dl (dgi_Dig _ _) hla' (by omega) (by omega) (by have:=HGG.o;omega))
        have HTS:=qh (takeF_sum (p:=lp2) (ob:=dgi B) (lb:=lb) (at':=j) (m:=la-j) (often:=g) (by rw[<- hla'];exact KI.o.dl) (by omega) (by rw[HS.o.2];exact Int.mul_nonneg (by have:=HGG.o;omega) (by have:=HB0.o;omega)) (by rw[HS.o.2,<- hla'];exact HGL2.o));rw[HS.o.2,<- hla'] at HTS;have STP:=qh (KI.o.step (g:=g) HB0.o (by omega) (by have:=HGG.o;omega) (takeF_Dig KI.o.dl) HTS.o);clear hla';go_wp2_with fail
        refine TK.o.mono ?_;rintro e w3 ⟨rfl,hl3,hon3,hb3⟩;have hq3:=KW2.o.q.only hon3 (fun p hp=>by cases hp;have:=HGL.o;dsimp only;omega);have cq:w3.cell? ⟨gq,j,none⟩=some (.int .u32 (qp2 j)):=hq3.cell (by omega);have fq:=hq3.fz;have hqj:=KI.o.dq j (by omega);have hqG:=STP.o.1;have hGb:=HGG.o;have ug:=IntWalk.u32_in g (by omega);have uq:=IntWalk.u32_in (qp2 j+g) (by omega);have HL3:=qh hl3;have HQ3:=qh hq3;have HB3:=qh (KW2.o.bel.trans hb3);have HQB:=qh (And.intro hqj hqG)
        have hjq:(j:Int)<(la:Int)+1:=by omega
        have hjq2:j<la+1:=by omega
        clear hl3 hon3 hb3 hq3 TK hqj hqG;go_wp2_with fail
        go_roundw
        case rel =>
         have h2:=(HQ3.o.blk rfl).2.1;dsimp only at h2;exact⟨⟨_,rfl⟩,_,_,STP.o.2,HL3.o.keep (fun p hp=>Below.heap_setCell _ _ _ _ (by cases hp;have:=HGL.o;dsimp only;omega)),HQ3.o.put hjq2 (by have:=HQB.o;omega),HB3.o.setCell h2 _⟩
        case measure =>
         have h3:=cellN_own (HQ3.o.put (t:=j) (v:=qp2 j+g) hjq2 (by have:=HQB.o;omega)) (i:=j) hjq2;rw[upd_same] at h3;rw[h3,HMI.o];have:=HQB.o;omega
end Limb
namespace Book
open Go.RowKit Go.Sort Go.FreshG Limb
theorem ownsRow_touch {w w':World} {base:Nat} {T:TypeId} {sz:Nat} {v:Value} {k:Nat} {xs:List Value} {U:Nat->Prop} (h:w.ownsRow base T sz v k xs) (ht:Touch U w w') (hu:∀ g,v.ownBlock=some g->¬U g):w'.ownsRow base T sz v k xs:=by
 refine⟨h.1,h.2.imp id ?_⟩;rintro⟨g,cap,cur,hv,hlo,hg,h3⟩;exact⟨g,cap,cur,hv,hlo,(ht.block g (lt_of_block hg) (hu g (by rw[hv];rfl))).trans hg,h3⟩
theorem keepL_any (b base q k kt:Nat) (v u:Value) (xs ys:List Value) (a:Option Addr) (n c:Nat) (w:World) (hk:k<=30000) (hq:q<=60000) (hB:Bk2 w b base q k kt v u xs ys) (hbase:base<=w.heap.size) :
  Calls Tryz.prog 222 #[.pointer (some ⟨b,0,none⟩),.slice a n c] w fun e w'=>(∃ r,e=.returned r)/\∃ v',Bk2 w' b base (q+1) (k+1) kt v' u (xs++held a n c q) ys/\(v.ownBlock=v'.ownBlock\/∃ g,v'.ownBlock=some g/\w.heap.size<=g) /\
   Touch (fun g=>g=b\/v.ownBlock=some g) w w':=by
 obtain⟨i0,hi,hz0,hz1,hz2⟩:=info_parts infoHeldL;have KB:=qh hB;have b0:w.cell? ⟨b,0,none⟩=some (.int .i64 q):=hB.box.cell (i:=0) (by omega);have hfz:=hB.box.frozen;have e1:=IntWalk.i64_in ((q:Int)+1) (by omega);clear hB;go_enter Tryz.func222,Tryz.ntmps222
 go_upto_region 1 with (fail)
 obtain⟨W,hW⟩:∃ W,W=w.setCell ⟨b,0,none⟩ (.int .i64 ((q:Int)+1)):=⟨_,rfl⟩
 have X:=(KB.o.box.set 0 (.int .i64 ((q:Int)+1))).congr (g:=bkf2 (q+1) v u) (fun i _=>by
  unfold bkf2;by_cases e:i=0
  ·rw[if_pos e,if_pos e];rfl
  ·rw[if_neg e,if_neg e,if_neg e])
 have R:=KB.o.rowL.kept (w':=W) (row:=some b) (by
  rw[hW]
  exact⟨rfl,rfl,rfl,by simp,fun q _ hq=>Below.heap_setCell _ _ _ _ (fun e=>hq (by simp[e]))⟩) (Or.inr KB.o.neL)
 have hsz:W.heap.size=w.heap.size:=by rw[hW];simp
 have T:=qh (show Touch (fun g=>g=b\/v.ownBlock=some g) w W by rw[hW];exact(Touch.refl _ _).setCell (p:=⟨b,0,none⟩) (Or.inl (Or.inl rfl)) _);rw[<- hW] at X;rw[show(w.setCell ⟨b,0,none⟩ (.int .i64 ((q:Int)+1)))=W from hW.symm];have HX:=qh X;have HR:=qh R;have c0:W.cell? ⟨b,0,none⟩=some (.int .i64 ((q:Int)+1)):=X.cell (i:=0) (by omega);have c2:W.cell? ⟨b,2,none⟩=some v:=X.cell (i:=2) (by omega);have hfz:=X.frozen;have hlt:=X.lt
 have hbase:base<=W.heap.size:=by omega
 have hnb:=KB.o.neL;have HZ:=qh hsz;have f2:W.frozen? ⟨b,2,none⟩=false:=hfz 2;clear X R hW b0 hsz hfz;have HV:=qh (fun g (hg:v.ownBlock=some g)=>(HR.o.lt g hg).2);have HS:=qh (fun (w':World) (h:Touch (fun g=>v.ownBlock=some g) W w')=>And.intro ((World.cell?_of_block (a:=⟨b,0,none⟩) (h.block b hlt hnb)).trans c0) (And.intro ((World.cell?_of_block (a:=⟨b,2,none⟩) (h.block b hlt hnb)).trans c2) ((World.frozen?_of_block (a:=⟨b,2,none⟩) (h.block b hlt hnb)).trans f2)));have HB:=qh hbase;have HN:=qh hnb;have HLT:=qh hlt;clear c0 c2 f2 hbase hnb hlt
 refine wp_region_fresh 15 (spOf [(11,Sp.made (fun g:Nat=>.slice (some ⟨g,0,none⟩) 1 1) (fun g w'=>w'.heap[g]?=some (.cells #[.slice a n c,.slice none 0 0,.int .i64 ((q:Int)+1)] 127 (0,0))/\W.heap.size<=g)),
   (12,Sp.made (fun x:Value=>x) (fun x w'=>Row1L w' base k q xs a n c x/\(v.ownBlock=x.ownBlock\/∃ g,x.ownBlock=some g/\W.heap.size<=g)))])
  (G:=GrL base k q v xs a n c) (fun w'=>Touch (fun g=>v.ownBlock=some g) W w'/\w'.ownsRow base 127 3 v k xs) (by kernel_rfl) (by kernel_rfl)
  (spOf_cons (Sp.made_keeps fun g w w' h hG=>⟨(hG.1.block g (lt_of_block h.1) (fun e=>by have:=HV.o g e;omega)).trans h.1,h.2⟩) (spOf_cons (Sp.made_keeps fun x w w' h hG=>⟨hG.2.2 x h.1,h.2⟩) spOf_nil))
  ⟨fun w=>GrL.refl _ _ _ _ _ _ _ _ w,fun _ _ h hG=>⟨h.1.trans hG.1,hG.2.1 h.2⟩⟩ ⟨(Touch.refl _ _).drew,HR.o.kept (row:=none) ⟨rfl,rfl,rfl,zj,fun _ _ _=>rfl⟩ (by cases v.ownBlock;exact .inl rfl;exact .inr (by simp))⟩ ?_
 simp only[zx,zy,zv,zw]
 iterate 11
  (refine wpF_reads rfl rfl ?_ (fun w' hw'=>?_) ?_;rotate_left;· (have hb':=Has.world hw';(have hs:=HS.o _ hb'.1);clear hw';go_simp;try rfl))
 refine wpF_spec rfl rfl (fun w' hw'=>?_) ?_
 ·have hb':=hw'.world;clear hw';go_simp;refine⟨⟨?_,hb'.1.size⟩,GrL.alloc _ _⟩;show(w'.heap.push _)[w'.heap.size]=_;simp
 rintro _ ⟨gs,rfl⟩;refine wpF_spec rfl rfl (fun w' hw'=>?_) ?_
 ·have hb':=hw'.world;have h11:=hw'.fact 11 (by kernel_rfl);obtain⟨g',eg,hg1,hg2⟩:=h11
  cases eg
  obtain⟨x,w'',hrun,h1,h2,h3⟩:=keep_appendL hb'.2 (zm HB.o hb'.1.size) hk gs a n c hg1 47;clear hw';refine gives_appendG (v:=v) (u:=.slice (some ⟨gs,0,none⟩) 1 1) _ _ 47 (by rfl) (by(go_simp;try rfl)) (by(go_simp;try rfl)) hrun ?_;exact⟨⟨⟨x,rfl⟩,⟨x,rfl,h1,h3.imp id fun ⟨g,e,hl⟩=>⟨g,e,zm hb'.1.size hl⟩⟩⟩,h2⟩
 rintro y ⟨z,hz⟩;obtain rfl:y=z:=hz
 iterate 2
  (refine wpF_reads rfl rfl ?_ (fun w' hw'=>?_) ?_;rotate_left;· (have hb':=Has.world hw';(skip);clear hw';go_simp;try rfl))
 refine wpF_nil (fun w1 hC1 hF=>?_);obtain⟨y',ey,hY1,hY2⟩:=hF 12;obtain rfl:y=y':=ey
 obtain⟨gy,cy,rfl⟩:∃ gy cy,y=Value.slice (some ⟨gy,0,none⟩) (k+1) cy:=by
  rcases hY1.2 with ⟨_,h0⟩ | ⟨g,cap,cur,e,_⟩
  ·omega
  ·exact⟨g,cap,e⟩
 have KY:=qh (And.intro hY1 hY2);have KT:=qh (T.o.trans (hC1.1.mono (fun g hg=>Or.inr hg)));have KX:=qh (HX.o.of_block (hC1.1.block b HLT.o HN.o));obtain⟨d0,d2,df⟩:=HS.o _ hC1.1;clear hF hC1 HS hY1 hY2;go_wp2_with fail
 (try simp only[Exit.inBlock,Exit.then])
 refine bodyPost_end (results_none rfl _ _ _) rfl ?_;refine⟨⟨_,rfl⟩,Value.slice (some ⟨gy,0,none⟩) (k+1) cy,⟨?_,?_,?_,?_,?_,?_⟩,?_,KT.o.setCell (p:=⟨b,2,none⟩) (Or.inl (Or.inl rfl)) _⟩
 ·refine(KX.o.set 2 (Value.slice (some ⟨gy,0,none⟩) (k+1) cy)).congr fun i _=>?_
  unfold bkf2;by_cases e:i=2
  ·subst e;rfl
  ·rw[if_neg e];by_cases e0:i=0
   ·rw[if_pos e0,if_pos e0]
   ·rw[if_neg e0,if_neg e0];by_cases e2:i=6
    ·subst e2;rfl
    ·rw[if_neg e,if_neg e]
 ·refine World.ownsRow.kept (row:=some b) KY.o.1 ⟨rfl,rfl,rfl,by simp,fun q _ hq=>Below.heap_setCell _ _ _ _ (fun e=>hq (by simp[e]))⟩ (Or.inr ?_)
  rcases KY.o.2 with h | ⟨g,h,hl⟩
  ·rw[<- h];exact HN.o
  ·rw[h];intro e;cases e;have:=HLT.o;omega
 ·refine ownsRow_touch KB.o.rowT (KT.o.setCell (p:=⟨b,2,none⟩) (Or.inl (Or.inl rfl)) _) fun g hg hu=>?_
  rcases hu with hu | hu
  ·exact KB.o.neT (by rw[hg,hu])
  ·exact KB.o.vu g hu hg
 ·rcases KY.o.2 with h | ⟨g,h,hl⟩
  ·rw[<- h];exact HN.o
  ·rw[h];intro e;cases e;have:=HLT.o;omega
 ·exact KB.o.neT
 ·intro g hg hg2
  rcases KY.o.2 with h | ⟨g',h,hl⟩
  ·exact KB.o.vu g (h.trans hg) hg2
  ·have h9:=(KB.o.rowT.lt g hg2).2;rw[hg] at h
   injection h with h
   have:=HZ.o;omega
 ·rcases KY.o.2 with h | ⟨g,h,hl⟩
  ·exact .inl h
  ·exact .inr ⟨g,h,by have:=HZ.o;omega⟩
theorem keepT_any (b base q k kt:Nat) (v u:Value) (xs ys:List Value) (a:Option Addr) (n c:Nat) (w:World) (hk:kt<=30000) (hq:q<=60000) (hB:Bk2 w b base q k kt v u xs ys) (hbase:base<=w.heap.size) :
  Calls Tryz.prog 43 #[.pointer (some ⟨b,0,none⟩),.slice a n c] w fun e w'=>(∃ r,e=.returned r)/\∃ v',Bk2 w' b base (q+1) k (kt+1) v v' xs (ys++held a n c q)/\(u.ownBlock=v'.ownBlock\/∃ g,v'.ownBlock=some g/\w.heap.size<=g) /\
   Touch (fun g=>g=b\/u.ownBlock=some g) w w':=by
 obtain⟨i0,hi,hz0,hz1,hz2⟩:=info_parts infoHeldT;have KB:=qh hB;have b0:w.cell? ⟨b,0,none⟩=some (.int .i64 q):=hB.box.cell (i:=0) (by omega);have hfz:=hB.box.frozen;have e1:=IntWalk.i64_in ((q:Int)+1) (by omega);clear hB;go_enter Tryz.func43,Tryz.ntmps43
 go_upto_region 1 with (fail)
 obtain⟨W,hW⟩:∃ W,W=w.setCell ⟨b,0,none⟩ (.int .i64 ((q:Int)+1)):=⟨_,rfl⟩
 have X:=(KB.o.box.set 0 (.int .i64 ((q:Int)+1))).congr (g:=bkf2 (q+1) v u) (fun i _=>by
  unfold bkf2;by_cases e:i=0
  ·rw[if_pos e,if_pos e];rfl
  ·rw[if_neg e,if_neg e,if_neg e])
 have R:=KB.o.rowT.kept (w':=W) (row:=some b) (by
  rw[hW]
  exact⟨rfl,rfl,rfl,by simp,fun q _ hq=>Below.heap_setCell _ _ _ _ (fun e=>hq (by simp[e]))⟩) (Or.inr KB.o.neT)
 have hsz:W.heap.size=w.heap.size:=by rw[hW];simp
 have T:=qh (show Touch (fun g=>g=b\/u.ownBlock=some g) w W by rw[hW];exact(Touch.refl _ _).setCell (p:=⟨b,0,none⟩) (Or.inl (Or.inl rfl)) _);rw[<- hW] at X;rw[show(w.setCell ⟨b,0,none⟩ (.int .i64 ((q:Int)+1)))=W from hW.symm];have HX:=qh X;have HR:=qh R;have c0:W.cell? ⟨b,0,none⟩=some (.int .i64 ((q:Int)+1)):=X.cell (i:=0) (by omega);have c2:W.cell? ⟨b,6,none⟩=some u:=X.cell (i:=6) (by omega);have hfz:=X.frozen;have hlt:=X.lt
 have hbase:base<=W.heap.size:=by omega
 have hnb:=KB.o.neT;have HZ:=qh hsz;have f2:W.frozen? ⟨b,6,none⟩=false:=hfz 6;clear X R hW b0 hsz hfz;have HV:=qh (fun g (hg:u.ownBlock=some g)=>(HR.o.lt g hg).2);have HS:=qh (fun (w':World) (h:Touch (fun g=>u.ownBlock=some g) W w')=>And.intro ((World.cell?_of_block (a:=⟨b,0,none⟩) (h.block b hlt hnb)).trans c0) (And.intro ((World.cell?_of_block (a:=⟨b,6,none⟩) (h.block b hlt hnb)).trans c2) ((World.frozen?_of_block (a:=⟨b,6,none⟩) (h.block b hlt hnb)).trans f2)));have HB:=qh hbase;have HN:=qh hnb;have HLT:=qh hlt;clear c0 c2 f2 hbase hnb hlt
 refine wp_region_fresh 15 (spOf [(11,Sp.made (fun g:Nat=>.slice (some ⟨g,0,none⟩) 1 1) (fun g w'=>w'.heap[g]?=some (.cells #[.slice a n c,.slice none 0 0,.int .i64 ((q:Int)+1)] 120 (0,0))/\W.heap.size<=g)),
   (12,Sp.made (fun x:Value=>x) (fun x w'=>Row1T w' base kt q ys a n c x/\(u.ownBlock=x.ownBlock\/∃ g,x.ownBlock=some g/\W.heap.size<=g)))])
  (G:=GrT base kt q u ys a n c) (fun w'=>Touch (fun g=>u.ownBlock=some g) W w'/\w'.ownsRow base 120 3 u kt ys) (by kernel_rfl) (by kernel_rfl)
  (spOf_cons (Sp.made_keeps fun g w w' h hG=>⟨(hG.1.block g (lt_of_block h.1) (fun e=>by have:=HV.o g e;omega)).trans h.1,h.2⟩) (spOf_cons (Sp.made_keeps fun x w w' h hG=>⟨hG.2.2 x h.1,h.2⟩) spOf_nil))
  ⟨fun w=>GrT.refl _ _ _ _ _ _ _ _ w,fun _ _ h hG=>⟨h.1.trans hG.1,hG.2.1 h.2⟩⟩ ⟨(Touch.refl _ _).drew,HR.o.kept (row:=none) ⟨rfl,rfl,rfl,zj,fun _ _ _=>rfl⟩ (by cases u.ownBlock;exact .inl rfl;exact .inr (by simp))⟩ ?_
 simp only[zx,zy,zv,zw]
 iterate 11
  (refine wpF_reads rfl rfl ?_ (fun w' hw'=>?_) ?_;rotate_left;· (have hb':=Has.world hw';(have hs:=HS.o _ hb'.1);clear hw';go_simp;try rfl))
 refine wpF_spec rfl rfl (fun w' hw'=>?_) ?_
 ·have hb':=hw'.world;clear hw';go_simp;refine⟨⟨?_,hb'.1.size⟩,GrT.alloc _ _⟩;show(w'.heap.push _)[w'.heap.size]=_;simp
 rintro _ ⟨gs,rfl⟩;refine wpF_spec rfl rfl (fun w' hw'=>?_) ?_
 ·have hb':=hw'.world;have h11:=hw'.fact 11 (by kernel_rfl);obtain⟨g',eg,hg1,hg2⟩:=h11
  cases eg
  obtain⟨x,w'',hrun,h1,h2,h3⟩:=keep_appendT hb'.2 (zm HB.o hb'.1.size) hk gs a n c hg1 51;clear hw';refine gives_appendG (v:=u) (u:=.slice (some ⟨gs,0,none⟩) 1 1) _ _ 51 (by rfl) (by(go_simp;try rfl)) (by(go_simp;try rfl)) hrun ?_;exact⟨⟨⟨x,rfl⟩,⟨x,rfl,h1,h3.imp id fun ⟨g,e,hl⟩=>⟨g,e,zm hb'.1.size hl⟩⟩⟩,h2⟩
 rintro y ⟨z,hz⟩;obtain rfl:y=z:=hz
 iterate 2
  (refine wpF_reads rfl rfl ?_ (fun w' hw'=>?_) ?_;rotate_left;· (have hb':=Has.world hw';(skip);clear hw';go_simp;try rfl))
 refine wpF_nil (fun w1 hC1 hF=>?_);obtain⟨y',ey,hY1,hY2⟩:=hF 12;obtain rfl:y=y':=ey
 obtain⟨gy,cy,rfl⟩:∃ gy cy,y=Value.slice (some ⟨gy,0,none⟩) (kt+1) cy:=by
  rcases hY1.2 with ⟨_,h0⟩ | ⟨g,cap,cur,e,_⟩
  ·omega
  ·exact⟨g,cap,e⟩
 have KY:=qh (And.intro hY1 hY2);have KT:=qh (T.o.trans (hC1.1.mono (fun g hg=>Or.inr hg)));have KX:=qh (HX.o.of_block (hC1.1.block b HLT.o HN.o));obtain⟨d0,d2,df⟩:=HS.o _ hC1.1;clear hF hC1 HS hY1 hY2;go_wp2_with fail
 (try simp only[Exit.inBlock,Exit.then])
 refine bodyPost_end (results_none rfl _ _ _) rfl ?_;refine⟨⟨_,rfl⟩,Value.slice (some ⟨gy,0,none⟩) (kt+1) cy,⟨?_,?_,?_,?_,?_,?_⟩,?_,KT.o.setCell (p:=⟨b,6,none⟩) (Or.inl (Or.inl rfl)) _⟩
 ·refine(KX.o.set 6 (Value.slice (some ⟨gy,0,none⟩) (kt+1) cy)).congr fun i _=>?_
  unfold bkf2;by_cases e:i=6
  ·subst e;rfl
  ·rw[if_neg e];by_cases e0:i=0
   ·rw[if_pos e0,if_pos e0]
   ·rw[if_neg e0,if_neg e0];by_cases e2:i=2
    ·rw[if_pos e2,if_pos e2]
    ·rw[if_neg e2,if_neg e2,if_neg e,if_neg e]
 ·refine ownsRow_touch KB.o.rowL (KT.o.setCell (p:=⟨b,6,none⟩) (Or.inl (Or.inl rfl)) _) fun g hg hu=>?_
  rcases hu with hu | hu
  ·exact KB.o.neL (by rw[hg,hu])
  ·exact KB.o.vu g hg hu
 ·refine World.ownsRow.kept (row:=some b) KY.o.1 ⟨rfl,rfl,rfl,by simp,fun q _ hq=>Below.heap_setCell _ _ _ _ (fun e=>hq (by simp[e]))⟩ (Or.inr ?_)
  rcases KY.o.2 with h | ⟨g,h,hl⟩
  ·rw[<- h];exact HN.o
  ·rw[h];intro e;cases e;have:=HLT.o;omega
 ·exact KB.o.neL
 ·rcases KY.o.2 with h | ⟨g,h,hl⟩
  ·rw[<- h];exact HN.o
  ·rw[h];intro e;cases e;have:=HLT.o;omega
 ·intro g hg hg2
  rcases KY.o.2 with h | ⟨g',h,hl⟩
  ·exact KB.o.vu g hg (h.trans hg2)
  ·have h9:=(KB.o.rowL.lt g hg).2;rw[hg2] at h
   injection h with h
   have:=HZ.o;omega
 ·rcases KY.o.2 with h | ⟨g,h,hl⟩
  ·exact .inl h
  ·exact .inr ⟨g,h,by have:=HZ.o;omega⟩
end Book
end Go.Proofs.YthacfgmdihcffaaGreatDoor
