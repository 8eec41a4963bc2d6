/-
  The walk of brought of fracs: two fractions' numbers above, brought to one number below.
-/
import Derived.Test.YthacfgmdihcffaaGreatDoorPzRH
import Derived.RangeFuncBox
import Derived.RangeFuncLeaves
import Derived.RangeFuncFrom
import Derived.Shelf.Abstract
import Derived.OwnWalkIn
import Derived.TacticsInMore
import Derived.LoopNIn
import Derived.LoopIn
set_option linter.unusedSimpArgs false
set_option linter.unusedVariables false
set_option maxHeartbeats 16000000
set_option maxRecDepth 100000
namespace Go.Proofs.YthacfgmdihcffaaGreatDoor
namespace Limb
open Go.RowKit Go.Sort Go.Shelf
attribute [local go_sem] Oper.semAt_some
def down (n k:Nat):List Nat:=(List.range k).map fun j=>n-1-j
theorem down_succ (n k:Nat):down n (k+1)=down n k++[n-1-k]:=by simp[down,List.range_succ]
theorem down_length (n k:Nat):(down n k).length=k:=by simp[down]
def gather (M:Nat) (l:List Nat):Int:=l.foldl (fun h x=>h*1000000000-dgi M x) 0
theorem gather_snoc (M:Nat) (l:List Nat) (x:Nat):gather M (l++[x])=gather M l*1000000000-dgi M x:=by simp[gather]
theorem gather_down (M n:Nat) (h:M<pw n):∀ k,k<=n->gather M (down n k) = -((M/pw (n-k):Nat):Int):=by
 intro k
 induction k with
 | zero=>intro _;rw[Nat.sub_zero,Nat.div_eq_of_lt h];rfl
 | succ k ih =>
  intro hk;rw[down_succ,gather_snoc,ih (by omega)];obtain⟨j,hj⟩:∃ j,n-(k+1)=j:=⟨_,rfl⟩;rw[hj,show n-k=j+1 by omega,show n-1-k=j by omega]
  have e:M/pw (j+1)=M/pw j/1000000000:=by rw[pw_succ,Nat.div_div_eq_div_mul]
  have e2:dgi M j=((M/pw j%1000000000:Nat):Int):=rfl;rw[e,e2];omega
theorem gather_all (M n:Nat) (h:M<pw n):gather M (down n n) = -(M:Int):=by
 rw[gather_down M n h n zj,Nat.sub_self,pw_zero,Nat.div_one]
def KpB (n₀ Bs:Nat) (A B:World):Prop:=Below n₀ A B/\B.heap[Bs]?=A.heap[Bs]?
theorem KpB.refl (n₀ Bs:Nat) (A:World):KpB n₀ Bs A A:=⟨zk,rfl⟩
theorem KpB.trans {n₀ Bs:Nat} {A B C:World} (h:KpB n₀ Bs A B) (k:KpB n₀ Bs B C):KpB n₀ Bs A C:=⟨h.1.trans k.1,k.2.trans h.2⟩
theorem KpB.back {n₀ Bs:Nat} {w:World} (hn:n₀<=w.heap.size) (hB:Bs<w.heap.size) (W:World) (l:Nat) (o o':Obj) (hl:w.heap.size<=l) (h:W.heap[l]?=some o) (h1:o.isCells=false) (h2:o.isWalk=false):KpB n₀ Bs W (W.putObj l o'):=by
 refine⟨belowK_b hn W l o o' hl h h1 h2,?_⟩;have hg:=grownBy_putObj' W l o';by_cases hlt:Bs<W.heap.size
 ·exact hg.block Bs hlt (fun e=>by cases e;omega)
 ·have hlw:l<W.heap.size:=(Array.getElem?_eq_some_iff.1 h).1;omega
theorem bwd_any (a:Option Addr) (n c:Nat) (w:World) :
  Calls Tryz.prog 246 #[.slice a n c] w fun e w'=>e=.returned (.func (.func 255) #[] #[.pointer (some ⟨w.heap.size,0,none⟩)])/\w'=w.alloc (.cells #[.slice a n c] 28):=by
 go_enter Tryz.func246,Tryz.ntmps246;go_wp2;go_ret;exact⟨rfl,rfl⟩
theorem bwd1_in (F:Fence) (m:Nat) (hf:F.fn 255) (hro:F.round=none) (hm:1<=m) (l Bs n₀ M n cap:Nat) (a:Option Addr) (hn:n<=1000000000) (J Jx:List Nat->World->Prop)
  (hY:∀ pre (x:Nat) W,J pre W->pre.length<n->YieldAt F (m-1) Tryz.prog l #[.int .i64 (x:Int),.int .u32 (dgi M x)] W fun e W' =>
   (e=.returned (.bool true)/\J (pre++[x]) W'/\KpB n₀ Bs W W')\/(e=.returned (.bool false)/\Jx (pre++[x]) W'))
  (W:World) (hBs:W.rowIs Bs 28 1 (fun _=>.slice a n cap)) (hR:Rd W a n (dgi M)) (hRn:∀ p,a=some p->0<n->p.block<n₀) (h0:J [] W) :
  CallsIn F m Tryz.prog 255 #[.func (.yield l) #[] #[],.pointer (some ⟨Bs,0,none⟩)] W fun e W'=>(∃ v,e=.returned v) /\
   ((∃ ys,ys=down n n/\J ys W')\/(∃ pre,(∃ k,k<=n/\pre=down n k)/\Jx pre W')):=by
 have hbs0:W.cell? ⟨Bs,0,none⟩=some (.slice a n cap):=hBs.cell (i:=0) (by omega);refine callsIn_of_wp Tryz.func255 rfl hf ?_ hro;simp only[Tryz.ntmps255,List.size_toArray,List.length_cons,List.length_nil,Nat.reduceAdd,Nat.reduceSub,Array.replicate_succ,Array.replicate_zero,List.push_toArray,List.append_toArray,ze,zi]
 gi_wp2
 gi_loopw [3] (fun i wr=>∃ k:Nat,k<=n/\i=.int .i64 ((n:Int)-1-k)/\J (down n k) wr/\KpB n₀ Bs W wr)
  (fun i _=>(intOf i+1).toNat)
 case atStart=>exact⟨0,Nat.zero_le _,by simp,h0,KpB.refl _ _ _⟩
 case round =>
  obtain⟨k,hk,rfl,hJs,hnx⟩:=hrel;have hbs:wr.cell? ⟨Bs,0,none⟩=some (.slice a n cap):=(hBs.of_block hnx.2).cell (i:=0) (by omega);by_cases hlt:k<n
  ·obtain⟨b,off,rfl,hcs⟩:=hR.cells (by omega);obtain⟨j,hj⟩:∃ j,n-1-k=j:=⟨_,rfl⟩;have hcx:wr.cell? ⟨b,off+j,none⟩=some (.int .u32 (dgi M j)):=(hnx.1.cell (p:=⟨b,off+j,none⟩) (hRn ⟨b,off,none⟩ rfl (by omega))).trans (hcs j (by omega));obtain⟨fn,tmps,assign,body,hy,hR2⟩:=hY _ j wr hJs (by rw[down_length];exact hlt)
   have hdj:((n:Int)-1-(k:Int))=(j:Int):=by omega
   have hjn:(j:Int)<(n:Int):=by omega
   have hds:down n k++[j]=down n (k+1):=by rw[down_succ,hj]
   rw[hds] at hR2;rw[hdj];clear hcs hds
   gi_wp2
   refine hR2.mono ?_;rintro e W3 (⟨rfl,hJ3,hk3⟩ | ⟨rfl,hJx3⟩)
   ·gi_wp2
    go_roundw
    case rel=>exact⟨k+1,by omega,by congr 1;omega,hJ3,hnx.trans hk3⟩
    case measure=>first | (simp[intOf];omega) | (simp[intOf];done)
   ·gi_wp2
    refine bodyPost_ret (results_none rfl _ _ _) rfl ?_;exact⟨⟨_,rfl⟩,.inr ⟨_,⟨k+1,by omega,rfl⟩,hJx3⟩⟩
  ·obtain rfl:k=n:=by omega
   have hdj:((k:Int)-1-(k:Int)) = -1:=by omega
   rw[hdj]
   gi_wp2
   go_end0;exact⟨⟨_,rfl⟩,.inl ⟨_,rfl,hJs⟩⟩
theorem bwd_stops (F:Fence) (m:Nat) (hf:F.fn 255) (hro:F.round=none) (hm:1<=m) (Bs n₀ M n cap:Nat) (a:Option Addr) (hn:n<=1000000000) (w:World) (hn₀:n₀<=w.heap.size)
  (hc:w.rowIs Bs 28 1 (fun _=>.slice a n cap)) (hR:Rd w a n (dgi M)) (hRn:∀ p,a=some p->0<n->p.block<n₀) :
  SeqStopsK F m Tryz.prog 255 #[.pointer (some ⟨Bs,0,none⟩)] (fun x:Nat=>#[Value.int .i64 (x:Int),Value.int .u32 (dgi M x)]) (KpB n₀ Bs) (fun ys=>ys=down n n) (fun pre=>∃ k,k<=n/\pre=down n k) n w:=fun l J Jx W hW _ _ hY h0 =>
 bwd1_in F m hf hro hm l Bs n₀ M n cap a hn J Jx hY W (hc.of_block (hW.block _ hc.lt)) (hR.below hW) hRn h0
open Go.Fresh
attribute [local go_sem] Oper.semAt_some
theorem of_min:∃ mn:Int,mn = -9223372036854775808/\∀ w,Calls Tryz.prog 106 #[.int .i64 (-9223372036854775808)] w (ResN w mn):=⟨_,rfl,fun w=>of64_any _ w (by omega) (by omega)⟩
theorem of_max:∃ mx:Int,mx=9223372036854775807/\∀ w,Calls Tryz.prog 106 #[.int .i64 9223372036854775807] w (ResN w mx):=⟨_,rfl,fun w=>of64_any _ w (by omega) (by omega)⟩
theorem cmp_can (z y:Int) (a:Option Addr) (c:Nat) (a2:Option Addr) (c2:Nat) (w:World) (h1:Rd w a (lenB z.natAbs) (dgi z.natAbs)) (hn1:lenB z.natAbs<=100000000) (hc1:lenB z.natAbs<=c) (h2:Rd w a2 (lenB y.natAbs) (dgi y.natAbs)) (hn2:lenB y.natAbs<=100000000) (hc2:lenB y.natAbs<=c2) :
  Calls Tryz.prog 210 #[numV (decide (z<0)) a (lenB z.natAbs) c,numV (decide (y<0)) a2 (lenB y.natAbs) c2] w fun e w'=>e=.returned (.int .i64 (cmpZ z y))/\Below w.heap.size w w':=by
 have h:=cmp_any (decide (z<0)) a (lenB z.natAbs) c (dgi z.natAbs) (decide (y<0)) a2 (lenB y.natAbs) c2 (dgi y.natAbs) w h1 hn1 hc1 h2 hn2 hc2;rw[canon_val,canon_val] at h;exact h
theorem wrap_step (g d:Int):wrap64 (wrap64 (wrap64 g*1000000000)-d)=wrap64 (g*1000000000-d):=by
 unfold wrap64;omega
theorem wrap64_in {x:Int} (h:-9223372036854775808<=x/\x<=9223372036854775807):wrap64 x=x:=by
 unfold wrap64;omega
theorem row_new (w:World) (v:Value) (t:TypeId):(w.alloc (.cells #[v] t)).rowIs w.heap.size t 1 (fun _=>v):=World.rowIs_alloc w #[v] t (fun _=>v) (fun i hi=>by
 match i,hi with
 | 0,_=>rfl)
theorem own_num1 {T L b:Nat} {s:Bool} {a:Option Addr} {o:Nat->Int} {w:World} (h:∃ x:Option Addr,numV s a L L=numV s x L L/\Own T w b x L L o):Own T w b a L L o:=by
 obtain⟨x,e,h1⟩:=h;simp only[numV,Value.agg.injEq,Array.mk.injEq,List.cons.injEq,Value.slice.injEq,and_true,true_and] at e;rw[e];exact h1
open Classical in
theorem back_ok (z:Int) (a:Option Addr) (cap:Nat) (w:World) (h:Rd w a (lenB z.natAbs) (dgi z.natAbs)) (hcap:lenB z.natAbs<=cap) (h1:-9223372036854775808<=z) (h2:z<=9223372036854775807) :
  Calls Tryz.prog 226 #[numV (decide (z<0)) a (lenB z.natAbs) cap] w fun e w'=>e=.returned (.tuple #[.int .i64 z,.int .i64 0])/\Below w.heap.size w w':=by
 have HZ:=qh (And.intro h1 h2);have hL3:lenB z.natAbs<=3:=len3 (by omega);obtain⟨mn,hmn,OFN⟩:=of_min;obtain⟨mx,hmx,OFX⟩:=of_max;have hL4:lenB mn.natAbs<=3:=len3 (by omega);have hL5:lenB mx.natAbs<=3:=len3 (by omega);have hc1:∃ c,cmpZ z mn=c/\decide (c<0)=false:=⟨_,rfl,zo (by unfold cmpZ;split;omega;split <;> omega)⟩;have hc2:∃ c,cmpZ z mx=c/\decide (0<c)=false:=⟨_,rfl,zo (by unfold cmpZ;split;omega;split <;> omega)⟩;obtain⟨c1,e1,g1⟩:=hc1;obtain⟨c2,e2,g2⟩:=hc2;have HOFN:=qh OFN;have HOFX:=qh OFX;clear h1 h2 OFN OFX hmn hmx;have CHK:=qh (fun (w':World) (hb:Below w.heap.size w w')=>check_any (decide (z<0)) a (lenB z.natAbs) cap (dgi z.natAbs) w' (h.below hb) (by omega));rw[decide_eq_true (canon_ok z)] at CHK;have CM1:=qh (fun (w':World) (hb:Below w.heap.size w w') (a2:Option Addr) (c2:Nat) (h2:Rd w' a2 (lenB mn.natAbs) (dgi mn.natAbs)) (hc2:lenB mn.natAbs<=c2)=>cmp_can z mn a cap a2 c2 w' (h.below hb) (by omega) hcap h2 (by omega) hc2);have CM2:=qh (fun (w':World) (hb:Below w.heap.size w w') (a2:Option Addr) (c2:Nat) (h2:Rd w' a2 (lenB mx.natAbs) (dgi mx.natAbs)) (hc2:lenB mx.natAbs<=c2)=>cmp_can z mx a cap a2 c2 w' (h.below hb) (by omega) hcap h2 (by omega) hc2);rw[e1] at CM1;rw[e2] at CM2;have HR:=qh h;have HB1:=qh (Bx.new w 30 (.bool (decide (z<0))) (.slice a (lenB z.natAbs) cap));clear h e1 e2;refine(callsIn_wide (n:=4)).1 (callsIn_of_wp_marks Tryz.func226 rfl trivial ?_ rfl);simp only[Tryz.ntmps226,List.size_toArray,List.length_cons,List.length_nil,Nat.reduceAdd,Nat.reduceSub,Array.replicate_succ,Array.replicate_zero,List.push_toArray,List.append_toArray,ze,zi]
 refine wpIn_wide.2 ?_;go_wp2_with fail
 refine(CHK.o _ ?_).mono ?_
 ·exact qg
 rintro e w1 ⟨rfl,hb1⟩;have HB1:=qh (HB1.o.bl hb1);have HG1:=qh ((zk.alloc (by go_size) _).trans (hb1.mono (by go_size)):Below w.heap.size w w1);clear hb1;obtain⟨b10,b11,b12,b13⟩:=HB1.o.all
 go_upto_region 3 with (fail)
 have HS1:=qh (fun (w':World) (hb:Below w1.heap.size w1 w')=>And.intro (HB1.o.bl hb).c0 (HB1.o.bl hb).c1)
 refine wp_region_fresh 9 (spOf [(1,Sp.made (fun x:Option Addr=>numV (decide (mn<0)) x (lenB mn.natAbs) (lenB mn.natAbs)) (fun x w'=>Own 128 w' w1.heap.size x (lenB mn.natAbs) (lenB mn.natAbs) (dgi mn.natAbs))),(2,Sp.know (.int .i64 c1)),
   (6,Sp.made (fun x:Option Addr=>numV (decide (mx<0)) x (lenB mx.natAbs) (lenB mx.natAbs)) (fun x w'=>Own 128 w' w1.heap.size x (lenB mx.natAbs) (lenB mx.natAbs) (dgi mx.natAbs))),(7,Sp.know (.int .i64 c2))])
  (fun w'=>Below w1.heap.size w1 w') (by kernel_rfl) (by kernel_rfl)
  (spOf_cons (Sp.made_keeps fun x w w' h hb=>h.below hb) (spOf_cons (Sp.know_keeps _) (spOf_cons (Sp.made_keeps fun x w w' h hb=>h.below hb) (spOf_cons (Sp.know_keeps _) spOf_nil)))) (fun _ _ h hb=>h.trans (hb.mono h.size)) (zk.drew) ?_
 simp only[zx,zy,zv,zw]
 (refine wpF_reads rfl rfl ?_ (fun w' hw'=>?_) ?_;rotate_left;· (have hb':=Has.world hw';(have hs:=HS1.o _ hb');clear hw';go_simp;try rfl))
 conv=>arg 9;simp only[Act.put,zq0,zq1,zq2]
 (refine wpF_spec rfl rfl (fun w' hw'=>?_) ?_;· (have hb':=Has.world hw';go_simp;((refine(HOFN.o w').mono ?_;rintro e w'' ⟨a,rfl,ho,-,hb⟩;exact⟨_,rfl,⟨⟨a,rfl⟩,⟨a,rfl,ho.mono hb'.size⟩⟩,hb⟩))))
 rintro _ ⟨x,rfl⟩
 conv=>arg 9;simp only[Act.put,zq0,zq1,zq2]
 (refine wpF_spec rfl rfl (fun w' hw'=>?_) ?_;· (have hb':=Has.world hw';go_simp;((have h7:=own_num1 (T:=128) (a:=x) (b:=w1.heap.size) (s:=decide (mn<0)) (L:=lenB mn.natAbs) (o:=dgi mn.natAbs) (hw'.fact 1 (by kernel_rfl));refine(CM1.o w' (HG1.o.trans (hb'.mono HG1.o.size)) x _ h7.rd zj).mono ?_;rintro e w'' ⟨rfl,hb⟩;exact⟨_,rfl,rfl,hb⟩))))
 rintro _ rfl
 conv=>arg 9;simp only[Act.put,zq0,zq1,zq2]
 iterate 2
  (refine wpF_reads rfl rfl ?_ (fun w' hw'=>?_) ?_;rotate_left;· (have hb':=Has.world hw';(skip);clear hw';go_simp;try rfl))
  conv=>arg 9;simp only[Act.put,zq0,zq1,zq2]
 (refine wpF_readsG (by rfl) rfl ?_ (fun w' hw'=>?_) ?_;rotate_left;· (have hb':=Has.world hw';(have hs:=HS1.o _ hb');clear hw';go_simp;try rfl))
 conv=>arg 9;simp only[Act.put,zq0,zq1,zq2]
 (refine wpF_gspec (by rfl) rfl (fun w' hw'=>?_) ?_;· (have hb':=Has.world hw';go_simp;((refine(HOFX.o w').mono ?_;rintro e w'' ⟨a,rfl,ho,-,hb⟩;exact⟨_,rfl,⟨⟨a,rfl⟩,⟨a,rfl,ho.mono hb'.size⟩⟩,hb⟩))))
 rintro _ ⟨y,rfl⟩
 conv=>arg 9;simp only[Act.put,zq0,zq1,zq2]
 (refine wpF_gspec (by rfl) rfl (fun w' hw'=>?_) ?_;· (have hb':=Has.world hw';go_simp;((have h7:=own_num1 (T:=128) (a:=y) (b:=w1.heap.size) (s:=decide (mx<0)) (L:=lenB mx.natAbs) (o:=dgi mx.natAbs) (hw'.fact 6 (by kernel_rfl));refine(CM2.o w' (HG1.o.trans (hb'.mono HG1.o.size)) y _ h7.rd zj).mono ?_;rintro e w'' ⟨rfl,hb⟩;exact⟨_,rfl,rfl,hb⟩))))
 rintro _ rfl
 conv=>arg 9;simp only[Act.put,zq0,zq1,zq2]
 (refine wpF_readsG (by rfl) rfl ?_ (fun w' hw'=>?_) ?_;rotate_left;· (have hb':=Has.world hw';(skip);clear hw';go_simp;try rfl))
 conv=>arg 9;simp only[Act.put,zq0,zq1,zq2]
 refine wpF_nil (fun w2 hb2 hF5=>?_);have HB2:=qh (HB1.o.bl hb2);have HG2:=qh (HG1.o.trans (hb2.mono HG1.o.size));clear hF5 hb2 HS1 CHK CM1 CM2 HOFN HOFX b10 b11 b12 b13;obtain⟨b10,b11,b12,b13⟩:=HB2.o.all;go_wp2_with fail
 refine(bwd_any a (lenB z.natAbs) cap _).mono ?_;rintro e W0 ⟨rfl,hW0⟩
 have hs0:W0.heap.size=w2.heap.size+2:=by rw[hW0];simp
 have hB0:Below w2.heap.size w2 W0:=by rw[hW0];exact((Below.refl _ w2).alloc zj _).alloc (by simp) _
 have hc0:W0.cell? ⟨w2.heap.size,0,none⟩=some (.int .i64 0):=by rw[hW0];exact(((row_new w2 (.int .i64 0) 2).alloc _).cell (i:=0) (by omega))
 have hf0:W0.frozen? ⟨w2.heap.size,0,none⟩=false:=by rw[hW0];exact(((row_new w2 (.int .i64 0) 2).alloc _).frozen 0)
 have hc1:W0.rowIs (w2.heap.size+1) 28 1 (fun _=>.slice a (lenB z.natAbs) cap):=by
  rw[hW0];have:=(row_new (w2.alloc (.cells #[.int .i64 0] 2)) (.slice a (lenB z.natAbs) cap) 28);rw[World.size_alloc] at this;exact this
 rw[World.size_alloc];clear hW0;have hM:=lt_pw_lenB z.natAbs;have hR2:=HR.o.below HG2.o
 have hlt2:∀ p,a=some p->0<lenB z.natAbs->p.block<w2.heap.size:=by
  intro p hp h0;obtain⟨b,off,hab,hcs⟩:=hR2.cells h0
  rw[hab] at hp;cases hp
  exact block_lt_of_cell (hcs 0 h0)
 have HH:=qh (And.intro hM (And.intro hR2 hlt2));have HC0:=qh (And.intro hc0 (And.intro hf0 hc1));have HB0:=qh hB0;have HS0:=qh hs0;clear hM hR2 hlt2 hc0 hf0 hc1 hB0 hs0;go_wp2_with fail
 refine(wpIn_wide (n:=4)).1 ?_
 refine wpIn_rangeFunc_ownF rfl (by omega) (gf:=255) (lb:=#[.pointer (some ⟨w2.heap.size+1,0,none⟩)]) rfl trivial (enters_of Tryz.func255 (by kernel_rfl) rfl)
  (bwd_stops Fence.wide 3 trivial rfl (by omega) (w2.heap.size+1) w2.heap.size z.natAbs (lenB z.natAbs) cap a (by omega) W0 HB0.o.size HC0.o.2.2 (HH.o.2.1.below HB0.o) HH.o.2.2) KpB.trans (KpB.back HB0.o.size HC0.o.2.2.lt) zk (fun _=>rfl)
  (fun pre W=>(W.cell? ⟨w2.heap.size,0,none⟩=some (.int .i64 (wrap64 (gather z.natAbs pre)))/\W.frozen? ⟨w2.heap.size,0,none⟩=false)/\Below w2.heap.size w2 W)
  (fun _ _ _=>False)
  (OwnFrom.and (Go.Own.from (fun s A B row hs hg hr=>⟨cell_kept hs.1 hg hr,(frozen_kept hs.1 hg hr).trans hs.2⟩) _) (ownFrom_below zj (by rw[HS0.o];omega)))
  (fun _ _ _ _ _ hs _ _=>hs)
  ⟨⟨by rw[show gather z.natAbs []=0 from rfl,wrap64_in (by omega)];exact HC0.o.1,HC0.o.2.1⟩,HB0.o⟩
  (fun k=>{ tmps:=#[numV (decide (z<0)) a (lenB z.natAbs) cap,.pointer (some ⟨w.heap.size,0,none⟩),.int .i64 0,.int .i64 0,.pointer (some ⟨w2.heap.size,0,none⟩),undef,.int .u32 (dgi z.natAbs k),.bool false,.agg #[.bool (decide (z<0)),.slice a (lenB z.natAbs) cap],.bool true,.bool false,.bool false,.agg #[.bool (decide (z<0)),.slice a (lenB z.natAbs) cap],numV (decide (mn<0)) x (lenB mn.natAbs) (lenB mn.natAbs),.int .i64 c1,.bool false,.bool false,.agg #[.bool (decide (z<0)),.slice a (lenB z.natAbs) cap],numV (decide (mx<0)) y (lenB mx.natAbs) (lenB mx.natAbs),.int .i64 c2,.bool false,.bool false,.pointer (some ⟨w.heap.size,1,none⟩),.slice a (lenB z.natAbs) cap,.func (.func 255) #[] #[.pointer (some ⟨w2.heap.size+1,0,none⟩)],.int .i64 (k:Int),.int .u32 (dgi z.natAbs k),undef,undef,undef,undef,undef,undef,undef,undef,undef,undef,undef],defers:=[] }) ?assign ?body ?done ?stop
 case assign =>
  intro l k W K hK
  gi_wp2
  exact hK
 case body =>
  rintro l pre k W ⟨⟨hc,hf⟩,hB⟩ _;have hd:=dgi_Dig z.natAbs (k+1) k (by omega);have u1:=IntWalk.i64_in (dgi z.natAbs k) (by omega);have HB:=qh hB;have hwr:=wrap_step (gather z.natAbs pre) (dgi z.natAbs k);rw[<- gather_snoc] at hwr;have HW:=qh hwr;clear hwr hB
  gi_wp2
  refine⟨KeepsOthers.setCell _ _ _,⟨(Below.refl w2.heap.size W).setCell (p:=⟨w2.heap.size,0,none⟩) zj _,Below.heap_setCell _ _ _ _ (by dsimp only;omega)⟩,⟨?_,by rw[World.frozen?_setCell];exact hf⟩,HB.o.setCell (p:=⟨w2.heap.size,0,none⟩) zj _⟩;rw[<- HW.o];exact World.cell?_setCell_same' _ _ _ (by rw[hc];rfl)
 case done =>
  rintro D ys W hD rfl ⟨⟨hc,hf⟩,hB⟩ hK;rw[gather_all _ _ HH.o.1,wrap64_in (by have:=HZ.o;omega)] at hc;have B3:=HB2.o.bl hB;have HG3:=qh (HG2.o.trans (hB.mono HG2.o.size));obtain⟨b30,b31,b32,b33⟩:=B3.all;have HD:=qh hD;have HK:=qh hK;clear hD hK hB B3;by_cases hneg:z<0
  ·have hdn:decide (z<0)=true:=decide_eq_true hneg
   have hval:-(z.natAbs:Int)=z:=by omega
   rw[hval] at hc;clear hneg hval;go_wp2_with fail
   refine⟨by simp,.inl ⟨_,_,rfl,run_takeDeferred HK.o,?_⟩⟩;exact⟨_,results_tmp2 rfl _ _ _,rfl,HG3.o.trans (belowK_b (w:=W0) (zm HG2.o.size HB0.o.size) _ D _ _ HD.o HK.o rfl rfl)⟩
  ·have hdn:decide (z<0)=false:=zo hneg;have EW:=qh (show wrap64 (z.natAbs:Int)=z by rw[wrap64_in (by have:=HZ.o;omega)];omega);clear hneg;go_wp2_with fail
   have hK2:=(KeepsOthers.setCell W ⟨w2.heap.size,0,none⟩ (.int .i64 (wrap64 (z.natAbs:Int)))).same D _ HK.o rfl;refine⟨by simp,.inl ⟨_,_,rfl,run_takeDeferred hK2,?_⟩⟩;exact⟨_,results_tmp2 rfl _ _ _,by rw[EW.o];rfl,(HG3.o.setCell (p:=⟨w2.heap.size,0,none⟩) HG2.o.size _).trans (belowK_b (w:=W0) (zm HG2.o.size HB0.o.size) _ D _ _ HD.o hK2 rfl rfl)⟩
 case stop =>
  rintro D c pre W _ _ h _;exact h.elim
end Limb
namespace Limb
open Go.RowKit Go.Sort Go.Fresh
theorem gcd_step (x y:Int):Int.gcd x y=Int.gcd y (x%y):=by rw[Int.emod_def,Int.gcd_sub_mul_left_right,Int.gcd_comm]
structure RdS (w:World) (lo hi:Nat) (a:Option Addr) (n:Nat) (o:Nat->Int):Prop where
 rd:Rd w a n o
 far:0<n->∀ p,a=some p->p.block<lo\/hi<=p.block
theorem RdS.below {w w':World} {lo hi:Nat} {a:Option Addr} {n:Nat} {o:Nat->Int} (h:RdS w lo hi a n o) (hb:Below w.heap.size w w'):RdS w' lo hi a n o:=⟨h.rd.below hb,h.far⟩
theorem RdS.set {w:World} {lo hi:Nat} {a:Option Addr} {n:Nat} {o:Nat->Int} (h:RdS w lo hi a n o) {p:Addr} (h1:lo<=p.block) (h2:p.block<hi) (v:Value):RdS (w.setCell p v) lo hi a n o:=by
 refine⟨⟨fun hn=>?_,h.rd.rng⟩,h.far⟩;obtain⟨b,off,ha,hc⟩:=h.rd.cells hn;refine⟨b,off,ha,fun i hi'=>?_⟩;have hf:=h.far hn _ ha;dsimp only at hf;rw[<- hc i hi'];exact World.cell?_of_block (Below.heap_setCell _ _ _ _ (by dsimp only;omega))
theorem RdS.sz {w:World} {lo hi:Nat} {a:Option Addr} {n:Nat} {o:Nat->Int} (h:RdS w lo hi a n o) {p:Addr} {v:Value} (h1:lo<=p.block:=by dsimp only;omega) (h2:p.block<hi:=by dsimp only;omega):RdS (w.setCell p v) lo hi a n o:=h.set h1 h2 v
structure Nm (w:World) (lo hi:Nat) (z:Int) (a:Option Addr) (c:Nat):Prop where
 r:RdS w lo hi a (lenB z.natAbs) (dgi z.natAbs)
 le:lenB z.natAbs<=c
 small:lenB z.natAbs<=10000000
theorem Nm.below {w w':World} {lo hi:Nat} {z:Int} {a:Option Addr} {c:Nat} (h:Nm w lo hi z a c) (hb:Below w.heap.size w w'):Nm w' lo hi z a c:=⟨h.r.below hb,h.le,h.small⟩
theorem Nm.set {w:World} {lo hi:Nat} {z:Int} {a:Option Addr} {c:Nat} (h:Nm w lo hi z a c) {p:Addr} (h1:lo<=p.block) (h2:p.block<hi) (v:Value):Nm (w.setCell p v) lo hi z a c:=⟨h.r.set h1 h2 v,h.le,h.small⟩
theorem Nm.sz {w:World} {lo hi:Nat} {z:Int} {a:Option Addr} {c:Nat} (h:Nm w lo hi z a c) {p:Addr} {v:Value} (h1:lo<=p.block:=by dsimp only;omega) (h2:p.block<hi:=by dsimp only;omega):Nm (w.setCell p v) lo hi z a c:=h.set h1 h2 v
def gmeas (w:World) (b:Nat):Nat:=match w.cell? ⟨b,1,none⟩ with
 | some (.slice (some p) n _)=>(sumB (fun i=>match w.cell? ⟨p.block,p.off+i,none⟩ with | some (.int _ d)=>d | _=>0) n).toNat
 | _=>0
theorem gmeas_eq {w:World} {b:Nat} {t:TypeId} {s:Value} {a:Option Addr} {c M:Nat} (h:Bx w b t s (.slice a (lenB M) c)) (hr:Rd w a (lenB M) (dgi M)):gmeas w b=M:=by
 unfold gmeas;rw[h.c1];by_cases h0:0<lenB M
 ·obtain⟨g,off,rfl,hc⟩:=hr.cells h0;dsimp only;rw[sumB_congr (o':=dgi M) (fun i hi=>by rw[hc i hi])];rw[sumB_dgi];omega
 ·have hM:M=0:=lenB_eq_zero.1 (by omega);subst hM
  cases a with
  | none=>rfl
  | some p =>
   dsimp only;rw[lenB_zero];rfl
theorem back_amt (N:Nat) (a:Option Addr) (cap:Nat) (w:World) (h:Rd w a (lenB N) (dgi N)) (hcap:lenB N<=cap) (h2:lenB N<=2) :
  Calls Tryz.prog 226 #[numV false a (lenB N) cap] w fun e w'=>e=.returned (.tuple #[.int .i64 (N:Int),.int .i64 0])/\Below w.heap.size w w':=by
 have hN:N<1000000000000000000:=Nat.lt_of_lt_of_le (lt_pw_lenB N) (pw_le h2);have hb:=back_ok (N:Int) a cap w (by rw[Int.natAbs_natCast];exact h) (by rw[Int.natAbs_natCast];exact hcap) (by omega) (by omega);rw[Int.natAbs_natCast,show decide ((N:Int)<0)=false from zo (by omega)] at hb;exact hb
theorem small_amt {N:Nat} (h:lenB N<=2):(N:Int)<=999999999999999999:=by
 have hN:N<1000000000000000000:=Nat.lt_of_lt_of_le (lt_pw_lenB N) (pw_le h);omega
open Classical in
theorem gcd_any (s1:Bool) (a1:Option Addr) (n1 c1:Nat) (o1:Nat->Int) (s2:Bool) (a2:Option Addr) (n2 c2:Nat) (o2:Nat->Int) (w:World)
  (h1:Rd w a1 n1 o1) (hn1:n1<=10000000) (hc1:n1<=c1) (h2:Rd w a2 n2 o2) (hn2:n2<=10000000) (hc2:n2<=c2) :
  Calls Tryz.prog 180 #[numV s1 a1 n1 c1,numV s2 a2 n2 c2] w (ResN w (Int.gcd (valN s1 n1 o1) (valN s2 n2 o2):Nat)):=by
 obtain⟨x1,d1,r1,l1,m1,O1⟩:=of_any s1 a1 n1 c1 o1 w h1 (by omega) hc1;obtain⟨x2,d2,r2,l2,m2,O2⟩:=of_any s2 a2 n2 c2 o2 w h2 (by omega) hc2
 generalize valN s1 n1 o1=z1 at r1 l1 m1 O1 ⊢
 generalize valN s2 n2 o2=z2 at r2 l2 m2 O2 ⊢
 have N1:Nm w w.heap.size (w.heap.size+3) z1 x1 d1:=⟨⟨r1,fun h0 p hp=>Or.inl (by obtain⟨b,off,e,hc⟩:=r1.cells h0;rw[e] at hp;cases hp;exact block_lt_of_cell (hc 0 h0))⟩,m1,by omega⟩;have N2:Nm w w.heap.size (w.heap.size+3) z2 x2 d2:=⟨⟨r2,fun h0 p hp=>Or.inl (by obtain⟨b,off,e,hc⟩:=r2.cells h0;rw[e] at hp;cases hp;exact block_lt_of_cell (hc 0 h0))⟩,m2,by omega⟩;have HN:=qh (And.intro N1 N2);have HO1:=qh O1;have HO2:=qh O2;obtain⟨G,hG⟩:∃ G:Nat,G=Int.gcd z1 z2:=⟨_,rfl⟩;rw[<- hG];have HGC:=qh hG;have B1:=(((Bx.new w 30 (.bool s1) (.slice a1 n1 c1)).alloc (.cells #[.bool s2,.slice a2 n2 c2] 30)).alloc (.cells #[.bool false,.slice none 0 0] 30));have B2:=((Bx.new2 w (.cells #[.bool s1,.slice a1 n1 c1] 30) 30 (.bool s2) (.slice a2 n2 c2)).alloc (.cells #[.bool false,.slice none 0 0] 30));have B3:=(Bx.new3 w (.cells #[.bool s1,.slice a1 n1 c1] 30) (.cells #[.bool s2,.slice a2 n2 c2] 30) 30 (.bool false) (.slice none 0 0));clear O1 O2 N1 N2 r1 r2 l1 l2 m1 m2 h1 h2 hG;go_enter Tryz.func180,Tryz.ntmps180
 go_upto_region 1 with (fail)
 obtain⟨W,hW⟩:∃ W,W=(((w.alloc (.cells #[.bool s1,.slice a1 n1 c1] 30)).alloc (.cells #[.bool s2,.slice a2 n2 c2] 30)).alloc (.cells #[.bool false,.slice none 0 0] 30)):=⟨_,rfl⟩;have G1:=qh ((zk.alloc (by go_size) _ |>.alloc (by go_size) _ |>.alloc (by go_size) _):Below w.heap.size w (((w.alloc (.cells #[.bool s1,.slice a1 n1 c1] 30)).alloc (.cells #[.bool s2,.slice a2 n2 c2] 30)).alloc (.cells #[.bool false,.slice none 0 0] 30)))
 have hWs:w.heap.size+3=W.heap.size:=by rw[hW];simp
 rw[<- hW] at B1 B2 B3 G1;rw[show(((w.alloc (.cells #[.bool s1,.slice a1 n1 c1] 30)).alloc (.cells #[.bool s2,.slice a2 n2 c2] 30)).alloc (.cells #[.bool false,.slice none 0 0] 30))=W from hW.symm];have HB1:=qh B1;have HB2:=qh B2;have HB3:=qh B3;have HWS:=qh hWs;clear hW B1 B2 B3 hWs;have HS:=qh (fun (w':World) (hb:Below W.heap.size W w')=>And.intro (HB1.o.bl hb) (And.intro (HB2.o.bl hb) (HB3.o.bl hb)))
 refine wp_region_fresh 3 (spOf [(1,Sp.know (numV (decide (z1<0)) x1 (lenB z1.natAbs) d1))]) (fun w'=>Below W.heap.size W w') (by kernel_rfl) (by kernel_rfl)
  (spOf_cons (Sp.know_keeps _) spOf_nil) (fun _ _ h hb=>h.trans (hb.mono h.size)) (zk.drew) ?_
 simp only[zx,zy,zv,zw]
 (refine wpF_reads rfl rfl ?_ (fun w' hw'=>?_) ?_;rotate_left;· (have hb':=Has.world hw';(obtain⟨y0,y1,y2,y3⟩:=(HS.o _ hb').1.all);clear hw';go_simp;try rfl))
 conv=>arg 9;simp only[Act.put,zq0,zq1,zq2]
 (refine wpF_spec rfl rfl (fun w' hw'=>?_) ?_;· (have hb':=Has.world hw';go_simp;((refine(HO1.o w' (G1.o.trans (hb'.mono G1.o.size))).mono ?_;rintro e w'' ⟨rfl,hb⟩;exact⟨_,rfl,rfl,hb⟩))))
 rintro _ rfl
 conv=>arg 9;simp only[Act.put,zq0,zq1,zq2]
 (refine wpF_reads rfl rfl ?_ (fun w' hw'=>?_) ?_;rotate_left;· (have hb':=Has.world hw';(obtain⟨y0,y1,y2,y3⟩:=(HS.o _ hb').2.1.all);clear hw';go_simp;try rfl))
 conv=>arg 9;simp only[Act.put,zq0,zq1,zq2]
 refine wpF_nil (fun w1 hb1 hF=>?_);have GB:=qh hb1;clear hF hb1;go_wp2_with fail
 refine(HO2.o w1 (G1.o.trans (GB.o.mono G1.o.size))).mono ?_;rintro e w2 ⟨rfl,hb2⟩;have GB:=qk GB hb2;have M:=HS.o _ GB.o;have HM:=qh M;clear hb2 HO1 HO2;obtain⟨b10,b11,b12,b13⟩:=M.1.all;obtain⟨b20,b21,b22,b23⟩:=M.2.1.all;clear M;go_wp2_with fail
 have hws:=HWS.o;have K1:=qh (((HM.o.1.set (.bool (decide (z1<0))) (.slice x1 (lenB z1.natAbs) d1)).other (a:=⟨w.heap.size+1,0,none⟩) (by dsimp only;omega) (.bool (decide (z2<0)))).other (a:=⟨w.heap.size+1,1,none⟩) (by dsimp only;omega) (.slice x2 (lenB z2.natAbs) d2));have K2:=qh (((HM.o.2.1.other (a:=⟨w.heap.size,0,none⟩) (by dsimp only;omega) (.bool (decide (z1<0)))).other (a:=⟨w.heap.size,1,none⟩) (by dsimp only;omega) (.slice x1 (lenB z1.natAbs) d1)).set (.bool (decide (z2<0))) (.slice x2 (lenB z2.natAbs) d2));have K3:=qh ((((HM.o.2.2.other (a:=⟨w.heap.size,0,none⟩) (by dsimp only;omega) (.bool (decide (z1<0)))).other (a:=⟨w.heap.size,1,none⟩) (by dsimp only;omega) (.slice x1 (lenB z1.natAbs) d1)).other (a:=⟨w.heap.size+1,0,none⟩) (by dsimp only;omega) (.bool (decide (z2<0)))).other (a:=⟨w.heap.size+1,1,none⟩) (by dsimp only;omega) (.slice x2 (lenB z2.natAbs) d2));have hw2:=G1.o.trans (GB.o.mono G1.o.size);have KG:=qh ((((hw2.setCell (p:=⟨w.heap.size,0,none⟩) zj (.bool (decide (z1<0)))).setCell (p:=⟨w.heap.size,1,none⟩) zj (.slice x1 (lenB z1.natAbs) d1)).setCell (p:=⟨w.heap.size+1,0,none⟩) (by dsimp only;omega) (.bool (decide (z2<0)))).setCell (p:=⟨w.heap.size+1,1,none⟩) (by dsimp only;omega) (.slice x2 (lenB z2.natAbs) d2));have KN1:=qh (((((HN.o.1.below hw2).set (p:=⟨w.heap.size,0,none⟩) zj (by dsimp only;omega) (.bool (decide (z1<0)))).set (p:=⟨w.heap.size,1,none⟩) zj (by dsimp only;omega) (.slice x1 (lenB z1.natAbs) d1)).set (p:=⟨w.heap.size+1,0,none⟩) (by dsimp only;omega) (by dsimp only;omega) (.bool (decide (z2<0)))).set (p:=⟨w.heap.size+1,1,none⟩) (by dsimp only;omega) (by dsimp only;omega) (.slice x2 (lenB z2.natAbs) d2))
 have KN2:=qh (((((HN.o.2.below hw2).set (p:=⟨w.heap.size,0,none⟩) zj (by dsimp only;omega) (.bool (decide (z1<0)))).set (p:=⟨w.heap.size,1,none⟩) zj (by dsimp only;omega) (.slice x1 (lenB z1.natAbs) d1)).set (p:=⟨w.heap.size+1,0,none⟩) (by dsimp only;omega) (by dsimp only;omega) (.bool (decide (z2<0)))).set (p:=⟨w.heap.size+1,1,none⟩) (by dsimp only;omega) (by dsimp only;omega) (.slice x2 (lenB z2.natAbs) d2));clear hw2 hws HM HS HN b10 b11 b12 b13 b20 b21 b22 b23
 go_loopw [] (fun wr=>∃ (x y:Int) (ax ay:Option Addr) (dx dy:Nat),Int.gcd x y=G/\Nm wr w.heap.size (w.heap.size+3) x ax dx/\Nm wr w.heap.size (w.heap.size+3) y ay dy /\
   Bx wr w.heap.size 30 (.bool (decide (x<0))) (.slice ax (lenB x.natAbs) dx)/\Bx wr (w.heap.size+1) 30 (.bool (decide (y<0))) (.slice ay (lenB y.natAbs) dy)/\Bx wr (w.heap.size+1+1) 30 (.bool false) (.slice none 0 0)/\Below w.heap.size w wr) (fun wr=>gmeas wr (w.heap.size+1))
 case atStart=>exact⟨z1,z2,x1,x2,d1,d2,HGC.o.symm,KN1.o,KN2.o,K1.o,K2.o,K3.o,KG.o⟩
 case round =>
  obtain⟨x,y,ax,ay,dx,dy,hg,hx,hy,hB1,hB2,hB3,hb⟩:=hrel;obtain⟨wo,rfl⟩:∃ wo:World,wo=wr:=⟨_,rfl⟩;have HX:=qh hx;have HY:=qh hy;have HG:=qh hg;have HB:=qh hb;have HB1:=qh hB1;have HB2:=qh hB2;have HB3:=qh hB3;have HM0:=qh (gmeas_eq hB2 hy.r.rd);obtain⟨Lx,hLx⟩:∃ Lx,Lx=lenB x.natAbs:=⟨_,rfl⟩;obtain⟨Ly,hLy⟩:∃ Ly,Ly=lenB y.natAbs:=⟨_,rfl⟩
  have hsx:Lx<=10000000:=by rw[hLx];exact hx.small
  have hsy:Ly<=10000000:=by rw[hLy];exact hy.small
  have HL:=qh (And.intro hLx hLy);obtain⟨b10,b11,b12,b13⟩:=hB1.all;obtain⟨b20,b21,b22,b23⟩:=hB2.all;obtain⟨b30,b31,b32,b33⟩:=hB3.all;rw[<- hLx] at b11;rw[<- hLy] at b21;clear hx hy hg hb hB1 hB2 hB3 hLx hLy;by_cases hy0:Ly=0
  ·subst hy0;have CL:=qh (clone_any ax Lx dx (dgi x.natAbs) wo (by rw[HL.o.1];exact HX.o.r.rd) (by omega));go_wp2_with fail
   refine CL.o.mono ?_;rintro e w4 ⟨ac,dc,rfl,hO,hn,hb4⟩;have HA:=qh (show AmtO w4 wo.heap.size ac Lx dc x.natAbs (dgi x.natAbs) from⟨hO,dgi_Dig _ _,by rw[HL.o.1];exact sumB_dgi _,by omega,hn⟩);have HB4:=qh hb4;clear hO hn hb4 CL b10 b11 b12 b13 b20 b21 b22 b23 b30 b31 b32 b33;have CT:=qh (cut_amt false false ac Lx dc x.natAbs wo.heap.size (dgi x.natAbs) w4 HA.o rfl);go_wp2_with fail
   refine CT.o.mono ?_;rintro e w5 ⟨rfl,hO,hb5⟩;have hb5':=HB4.o.trans (hb5.mono HB4.o.size);have M3:=HB3.o.bl hb5';have HM3:=qh M3;have HO5:=qh hO;have HB5:=qh (HB.o.trans (hb5'.mono HB.o.size));have HNN:=qh HA.o.none;clear hO hb5 hb5' CT;obtain⟨b30,b31,b32,b33⟩:=M3.all;clear M3;go_wp2_with fail
   have hG:(G:Int)=(x.natAbs:Int):=by
    have hy:y=0:=by have:=lenB_eq_zero.1 HL.o.2.symm;omega
    rw[<- HG.o,hy,Int.gcd_zero_right]
   have hlt:=HB3.o.lt
   have hLG:Lx=lenB ((G:Nat):Int).natAbs:=by rw[Int.natAbs_natCast,HL.o.1];congr 1;omega
   have hGx:x.natAbs=((G:Nat):Int).natAbs:=by rw[Int.natAbs_natCast];omega
   rw[<- HL.o.1] at HO5 HNN;have HH:=qh (HM3.o.set (.bool false) (.slice ac (lenB x.natAbs) (lenB x.natAbs)));refine bodyPost_ret (results_cell rfl _ _ _ _ _ _ _ rfl HH.o Tryz.underlying30 rfl (by kernel_rfl)) rfl ⟨ac,?_,?_,?_,?_⟩
   ·rw[<- hLG,HL.o.1,zo (show ¬((G:Nat):Int)<0 by omega)]
   ·rw[<- hLG,<- hGx];exact((HO5.o.oz).oz).mono HB.o.size
   ·rw[<- hLG];exact HNN.o
   ·exact(HB5.o.sc).sc
  ·have hy1:¬y=0:=fun h=>hy0 (by rw[HL.o.2,h];exact lenB_zero)
   have HY1:=qh hy1;clear hy1
   have hpos:0<Ly:=by omega
   by_cases hs1:Lx<=2
   ·have hs1':(Lx:Int)<=2:=by omega
    have hd1':decide ((Lx:Int)<=2)=true:=decide_eq_true hs1';by_cases hs2:Ly<=2
    ·have hs2':(Ly:Int)<=2:=by omega
     have hd2':decide ((Ly:Int)<=2)=true:=decide_eq_true hs2';have S1:=qh (small_amt (N:=x.natAbs) (by rw[<- HL.o.1];exact hs1));have S2:=qh (small_amt (N:=y.natAbs) (by rw[<- HL.o.2];exact hs2));have HLL:=qh (And.intro hs1 hs2);have CL:=qh (clone_any ax Lx dx (dgi x.natAbs) wo (by rw[HL.o.1];exact HX.o.r.rd) (by omega));go_wp2_with fail
     refine CL.o.mono ?_;rintro e w4 ⟨ac,dc,rfl,hO,hn,hb4⟩;have HA:=qh (show AmtO w4 wo.heap.size ac Lx dc x.natAbs (dgi x.natAbs) from⟨hO,dgi_Dig _ _,by rw[HL.o.1];exact sumB_dgi _,by omega,hn⟩);have HB4:=qh hb4;clear hO hn hb4 CL b10 b11 b12 b13 b20 b21 b22 b23 b30 b31 b32 b33;have CT:=qh (cut_amt false false ac Lx dc x.natAbs wo.heap.size (dgi x.natAbs) w4 HA.o rfl);go_wp2_with fail
     refine CT.o.mono ?_;rintro e w5 ⟨rfl,hO,hb5⟩;have HB4:=qk HB4 hb5;have BK:=qh (back_amt x.natAbs ac (lenB x.natAbs) w5 hO.rd zj (by rw[<- HL.o.1];exact HLL.o.1));clear hO hb5 CT HA;go_wp2_with fail
     refine BK.o.mono ?_;rintro e w6 ⟨rfl,hb6⟩;have HB6:=qh (HB4.o.trans (hb6.mono HB4.o.size));clear hb6 BK HB4;have M2:=HB2.o.below HB6.o HB2.o.lt;obtain⟨b20,b21,b22,b23⟩:=M2.all;clear M2;have CL:=qh (clone_any ay (lenB y.natAbs) dy (dgi y.natAbs) w6 (HY.o.r.rd.below HB6.o) (by have:=HL.o.2;omega));go_wp2_with fail
     refine CL.o.mono ?_;rintro e w4 ⟨ac2,dc2,rfl,hO,hn,hb4⟩;have HA:=qh (show AmtO w4 w6.heap.size ac2 (lenB y.natAbs) dc2 y.natAbs (dgi y.natAbs) from⟨hO,dgi_Dig _ _,sumB_dgi _,by have:=HL.o.2;omega,hn⟩);have HB4:=qh (HB6.o.trans (hb4.mono HB6.o.size));clear hO hn hb4 CL HB6 b20 b21 b22 b23;have CT:=qh (cut_amt false false ac2 (lenB y.natAbs) dc2 y.natAbs w6.heap.size (dgi y.natAbs) w4 HA.o rfl);go_wp2_with fail
     refine CT.o.mono ?_;rintro e w5 ⟨rfl,hO,hb5⟩;have HB4:=qk HB4 hb5;have BK:=qh (back_amt y.natAbs ac2 (lenB y.natAbs) w5 hO.rd zj (by rw[<- HL.o.2];exact HLL.o.2));clear hO hb5 CT HA;go_wp2_with fail
     refine BK.o.mono ?_;rintro e w7 ⟨rfl,hb6⟩;have HB7:=qh (HB4.o.trans (hb6.mono HB4.o.size));clear hb6 BK HB4;go_wp2_with fail
     go_loopw [5,7] (fun m n wr=>∃ (p q:Nat),Nat.gcd p q=G/\(p:Int)<=999999999999999999/\(q:Int)<=999999999999999999/\m=.int .i64 (p:Int)/\n=.int .i64 (q:Int)/\Below wo.heap.size wo wr) (fun _ n _=>(intOf n).toNat)
     case atStart=>exact⟨x.natAbs,y.natAbs,HG.o,S1.o,S2.o,rfl,rfl,HB7.o⟩
     case round =>
      obtain⟨p,q,hpq,hp,hq,rfl,rfl,hbr⟩:=hrel;have HPQ:=qh hpq;have HBR:=qh hbr;clear hpq hbr;by_cases hq0:0<q
      ·have hq0':0<(q:Int):=by omega
       have hqn:¬(q:Int)=0:=by omega
       obtain⟨r,hr⟩:∃ r:Nat,r=p%q:=⟨_,rfl⟩
       have t1:(p:Int).tmod (q:Int)=(r:Int):=by rw[hr,Int.natCast_emod];exact Int.tmod_eq_emod_of_nonneg (by omega)
       have hrq:r<q:=by rw[hr];exact Nat.mod_lt _ hq0
       have u1:=IntWalk.i64_in (r:Int) (by omega);have HR:=qh hr;have HRQ:=qh hrq;clear hr hrq;go_wp2_with fail
       go_quiet (fail);go_wp2_with fail
       go_roundw
       case rel=>exact⟨q,r,by rw[HR.o,Nat.gcd_comm,<- Nat.gcd_rec,Nat.gcd_comm];exact HPQ.o,hq,by have:=HRQ.o;omega,rfl,rfl,bdrewN HBR.o _⟩
       case measure=>simp[intOf];exact HRQ.o
      ·have hq1:¬0<(q:Int):=by omega
       have hpG:p=G:=by rw[<- HPQ.o,show q=0 by omega,Nat.gcd_zero_right]
       have OF:=qh (fun (w':World)=>of64_any (G:Int) w' (by omega) (by omega));have HPG:=qh hpG;rw[<- hpG] at OF;clear hpG;go_wp2_with fail
       refine(OF.o _).mono ?_;rintro e w8 ⟨aG,rfl,hO,hn,hb8⟩;have hb9:=HBR.o.trans (hb8.mono HBR.o.size);have M3:=HB3.o.bl hb9;have HM3:=qh M3;have HO8:=qh (And.intro hO hn);have HB9:=qh (HB.o.trans (hb9.mono HB.o.size));have HS9:=qh HBR.o.size;clear hO hn hb8 hb9 OF;obtain⟨b30,b31,b32,b33⟩:=M3.all;clear M3;go_wp2_with fail
       have hlt:=HB3.o.lt;have hs9:=HS9.o;have hs10:=HB.o.size;rw[<- HPG.o];refine bodyPost_ret (results_cell rfl _ _ _ _ _ _ _ rfl (HM3.o.set _ _) Tryz.underlying30 rfl (by kernel_rfl)) rfl ⟨aG,?_,?_,HO8.o.2,?_⟩
       ·rw[zo (show ¬((p:Nat):Int)<0 by omega)];rfl
       ·exact((HO8.o.1.oz).oz).mono (by omega)
       ·exact(HB9.o.sc).sc
    ·have hs2':¬(Ly:Int)<=2:=by omega
     have hd2':decide ((Ly:Int)<=2)=false:=zo hs2';have DV:=qh (div_ok x y ax ay dx dy wo HX.o.r.rd HX.o.small HX.o.le HY.o.r.rd HY.o.small HY.o.le HY1.o);rw[<- HL.o.1,<- HL.o.2] at DV;go_wp2_with fail
     refine DV.o.mono ?_;rintro e w4 ⟨aq,ar,rfl,-,hor,-,-,-,hb4⟩;have hb4':=hb4;have HOR:=qh hor;have M1:=HB1.o.bl hb4;have M2:=HB2.o.bl hb4;have M3:=HB3.o.bl hb4;have HM:=qh (And.intro M1 (And.intro M2 M3));have HY4:=qh (HY.o.below hb4);have HB4:=qh hb4;clear hor hb4 hb4' DV b10 b11 b12 b13 b20 b21 b22 b23 b30 b31 b32 b33;obtain⟨b10,b11,b12,b13⟩:=M1.all;obtain⟨b20,b21,b22,b23⟩:=M2.all;clear M1 M2 M3;obtain⟨R,hR⟩:∃ R,R=x%y:=⟨_,rfl⟩;obtain⟨Q,hQ⟩:∃ Q,Q=x/y:=⟨_,rfl⟩;rw[<- hR] at HOR ⊢;rw[<- hQ];have HRX:=qh hR;clear hR hQ
     go_upto_region 10 with (fail)
     obtain⟨U,hU⟩:∃ U,U=(w4.alloc (.cells #[.bool (decide (Q<0)),.slice aq (lenB Q.natAbs) (lenB Q.natAbs)] 30)).alloc (.cells #[.bool (decide (R<0)),.slice ar (lenB R.natAbs) (lenB R.natAbs)] 30):=⟨_,rfl⟩
     have hbU:Below w4.heap.size w4 U:=by rw[hU];exact(zk.alloc zj _).alloc (by simp) _
     have HRB:=qh (show Bx U (w4.heap.size+1) 30 (.bool (decide (R<0))) (.slice ar (lenB R.natAbs) (lenB R.natAbs)) by rw[hU];exact Bx.new2 w4 _ _ _ _);rw[show(w4.alloc (.cells #[.bool (decide (Q<0)),.slice aq (lenB Q.natAbs) (lenB Q.natAbs)] 30)).alloc (.cells #[.bool (decide (R<0)),.slice ar (lenB R.natAbs) (lenB R.natAbs)] 30)=U from hU.symm];have M1:=HM.o.1.below hbU HM.o.1.lt;have M2:=HM.o.2.1.below hbU HM.o.2.1.lt;have M3:=HM.o.2.2.below hbU HM.o.2.2.lt;have HMU:=qh (And.intro M1 (And.intro M2 M3));have HYU:=qh (HY4.o.below hbU);have HORU:=qh (HOR.o.below hbU);have HBU:=qh (HB.o.trans ((HB4.o.trans (hbU.mono HB4.o.size)).mono HB.o.size));clear hU hbU b10 b11 b12 b13 b20 b21 b22 b23 M3 HM HY4 HOR;obtain⟨b10,b11,b12,b13⟩:=M1.all;obtain⟨b20,b21,b22,b23⟩:=M2.all;obtain⟨b30,b31,b32,b33⟩:=HRB.o.all;clear M1 M2;obtain⟨br,hbr⟩:∃ br,br=w4.heap.size+1:=⟨_,rfl⟩
     have hbr2:w.heap.size+3<br:=by have h1:=HB3.o.lt;have h2:=HB4.o.size;omega
     rw[<- hbr] at b30 b31 b32 b33 ⊢
     have ne1:¬br=w.heap.size:=by omega
     have ne2:¬br=w.heap.size+1:=by omega
     have ne3:¬w.heap.size=br:=by omega
     have ne4:¬w.heap.size+1=br:=by omega
     clear hbr hbr2;go_region;clear ne1 ne2 ne3 ne4
     have hwo:w.heap.size+3<=wo.heap.size:=by have:=HB3.o.lt;omega
     have m1:=(((HMU.o.1.set (.bool (decide (y<0))) (.slice ay (lenB y.natAbs) dy)).other (a:=⟨w.heap.size+1,0,none⟩) (by dsimp only;omega) (.bool (decide (R<0)))).other (a:=⟨w.heap.size+1,1,none⟩) (by dsimp only;omega) (.slice ar (lenB R.natAbs) (lenB R.natAbs)));have m2:=(((HMU.o.2.1.other (a:=⟨w.heap.size,0,none⟩) (by dsimp only;omega) (.bool (decide (y<0)))).other (a:=⟨w.heap.size,1,none⟩) (by dsimp only;omega) (.slice ay (lenB y.natAbs) dy)).set (.bool (decide (R<0))) (.slice ar (lenB R.natAbs) (lenB R.natAbs)));have m3:=((((HMU.o.2.2.other (a:=⟨w.heap.size,0,none⟩) (by dsimp only;omega) (.bool (decide (y<0)))).other (a:=⟨w.heap.size,1,none⟩) (by dsimp only;omega) (.slice ay (lenB y.natAbs) dy)).other (a:=⟨w.heap.size+1,0,none⟩) (by dsimp only;omega) (.bool (decide (R<0)))).other (a:=⟨w.heap.size+1,1,none⟩) (by dsimp only;omega) (.slice ar (lenB R.natAbs) (lenB R.natAbs)));have g1:=(((((HBU.o.setCell (p:=⟨w.heap.size,0,none⟩) zj (.bool (decide (y<0)))).setCell (p:=⟨w.heap.size,1,none⟩) zj (.slice ay (lenB y.natAbs) dy)).setCell (p:=⟨w.heap.size+1,0,none⟩) (by dsimp only;omega) (.bool (decide (R<0)))).setCell (p:=⟨w.heap.size+1,1,none⟩) (by dsimp only;omega) (.slice ar (lenB R.natAbs) (lenB R.natAbs))).drew);have n1:=((((HYU.o.set (p:=⟨w.heap.size,0,none⟩) zj (by dsimp only;omega) (.bool (decide (y<0)))).set (p:=⟨w.heap.size,1,none⟩) zj (by dsimp only;omega) (.slice ay (lenB y.natAbs) dy)).set (p:=⟨w.heap.size+1,0,none⟩) (by dsimp only;omega) (by dsimp only;omega) (.bool (decide (R<0)))).set (p:=⟨w.heap.size+1,1,none⟩) (by dsimp only;omega) (by dsimp only;omega) (.slice ar (lenB R.natAbs) (lenB R.natAbs)))
     have hRs:R.natAbs<y.natAbs:=by have h1:=Int.emod_nonneg x HY1.o;have h2:=Int.emod_lt x HY1.o;have h3:=HRX.o;omega
     have n2a:Nm U w.heap.size (w.heap.size+3) R ar (lenB R.natAbs):=⟨⟨HORU.o.rd,fun h0 p hp=>Or.inr (zm hwo (HORU.o.blk hp).2.1)⟩,zj,zm (lenB_mono (Nat.le_of_lt hRs)) HY.o.small⟩;have n2:=((((n2a.set (p:=⟨w.heap.size,0,none⟩) zj (by dsimp only;omega) (.bool (decide (y<0)))).set (p:=⟨w.heap.size,1,none⟩) zj (by dsimp only;omega) (.slice ay (lenB y.natAbs) dy)).set (p:=⟨w.heap.size+1,0,none⟩) (by dsimp only;omega) (by dsimp only;omega) (.bool (decide (R<0)))).set (p:=⟨w.heap.size+1,1,none⟩) (by dsimp only;omega) (by dsimp only;omega) (.slice ar (lenB R.natAbs) (lenB R.natAbs)));have P1:=qh m1;have P2:=qh m2;have P3:=qh m3;have PG:=qh g1;have PN1:=qh n1;have PN2:=qh n2;have HRS:=qh hRs;clear m1 m2 m3 g1 n1 n2 n2a hRs hwo b10 b11 b12 b13 b20 b21 b22 b23 b30 b31 b32 b33;go_wp2_with fail
     go_roundw
     case rel =>
      refine⟨y,R,ay,ar,dy,lenB R.natAbs,?_,PN1.o.below zk.drew,PN2.o.below zk.drew,?_,P2.o,P3.o,PG.o⟩
      ·rw[HRX.o,<- gcd_step];exact HG.o
      ·exact P1.o
     case measure =>
      rw[HM0.o];have h:=gmeas_eq (M:=R.natAbs) P2.o PN2.o.r.rd;exact Nat.lt_of_le_of_lt (Nat.le_of_eq h) HRS.o
   ·have hs1':¬(Lx:Int)<=2:=by omega
    have hd1':decide ((Lx:Int)<=2)=false:=zo hs1';have DV:=qh (div_ok x y ax ay dx dy wo HX.o.r.rd HX.o.small HX.o.le HY.o.r.rd HY.o.small HY.o.le HY1.o);rw[<- HL.o.1,<- HL.o.2] at DV;go_wp2_with fail
    refine DV.o.mono ?_;rintro e w4 ⟨aq,ar,rfl,-,hor,-,-,-,hb4⟩;have hb4':=hb4;have HOR:=qh hor;have M1:=HB1.o.bl hb4;have M2:=HB2.o.bl hb4;have M3:=HB3.o.bl hb4;have HM:=qh (And.intro M1 (And.intro M2 M3));have HY4:=qh (HY.o.below hb4);have HB4:=qh hb4;clear hor hb4 hb4' DV b10 b11 b12 b13 b20 b21 b22 b23 b30 b31 b32 b33;obtain⟨b10,b11,b12,b13⟩:=M1.all;obtain⟨b20,b21,b22,b23⟩:=M2.all;clear M1 M2 M3;obtain⟨R,hR⟩:∃ R,R=x%y:=⟨_,rfl⟩;obtain⟨Q,hQ⟩:∃ Q,Q=x/y:=⟨_,rfl⟩;rw[<- hR] at HOR ⊢;rw[<- hQ];have HRX:=qh hR;clear hR hQ
    go_upto_region 10 with (fail)
    obtain⟨U,hU⟩:∃ U,U=(w4.alloc (.cells #[.bool (decide (Q<0)),.slice aq (lenB Q.natAbs) (lenB Q.natAbs)] 30)).alloc (.cells #[.bool (decide (R<0)),.slice ar (lenB R.natAbs) (lenB R.natAbs)] 30):=⟨_,rfl⟩
    have hbU:Below w4.heap.size w4 U:=by rw[hU];exact(zk.alloc zj _).alloc (by simp) _
    have HRB:=qh (show Bx U (w4.heap.size+1) 30 (.bool (decide (R<0))) (.slice ar (lenB R.natAbs) (lenB R.natAbs)) by rw[hU];exact Bx.new2 w4 _ _ _ _);rw[show(w4.alloc (.cells #[.bool (decide (Q<0)),.slice aq (lenB Q.natAbs) (lenB Q.natAbs)] 30)).alloc (.cells #[.bool (decide (R<0)),.slice ar (lenB R.natAbs) (lenB R.natAbs)] 30)=U from hU.symm];have M1:=HM.o.1.below hbU HM.o.1.lt;have M2:=HM.o.2.1.below hbU HM.o.2.1.lt;have M3:=HM.o.2.2.below hbU HM.o.2.2.lt;have HMU:=qh (And.intro M1 (And.intro M2 M3));have HYU:=qh (HY4.o.below hbU);have HORU:=qh (HOR.o.below hbU);have HBU:=qh (HB.o.trans ((HB4.o.trans (hbU.mono HB4.o.size)).mono HB.o.size));clear hU hbU b10 b11 b12 b13 b20 b21 b22 b23 M3 HM HY4 HOR;obtain⟨b10,b11,b12,b13⟩:=M1.all;obtain⟨b20,b21,b22,b23⟩:=M2.all;obtain⟨b30,b31,b32,b33⟩:=HRB.o.all;clear M1 M2;obtain⟨br,hbr⟩:∃ br,br=w4.heap.size+1:=⟨_,rfl⟩
    have hbr2:w.heap.size+3<br:=by have h1:=HB3.o.lt;have h2:=HB4.o.size;omega
    rw[<- hbr] at b30 b31 b32 b33 ⊢
    have ne1:¬br=w.heap.size:=by omega
    have ne2:¬br=w.heap.size+1:=by omega
    have ne3:¬w.heap.size=br:=by omega
    have ne4:¬w.heap.size+1=br:=by omega
    clear hbr hbr2;go_region;clear ne1 ne2 ne3 ne4
    have hwo:w.heap.size+3<=wo.heap.size:=by have:=HB3.o.lt;omega
    have m1:=(((HMU.o.1.set (.bool (decide (y<0))) (.slice ay (lenB y.natAbs) dy)).other (a:=⟨w.heap.size+1,0,none⟩) (by dsimp only;omega) (.bool (decide (R<0)))).other (a:=⟨w.heap.size+1,1,none⟩) (by dsimp only;omega) (.slice ar (lenB R.natAbs) (lenB R.natAbs)));have m2:=(((HMU.o.2.1.other (a:=⟨w.heap.size,0,none⟩) (by dsimp only;omega) (.bool (decide (y<0)))).other (a:=⟨w.heap.size,1,none⟩) (by dsimp only;omega) (.slice ay (lenB y.natAbs) dy)).set (.bool (decide (R<0))) (.slice ar (lenB R.natAbs) (lenB R.natAbs)));have m3:=((((HMU.o.2.2.other (a:=⟨w.heap.size,0,none⟩) (by dsimp only;omega) (.bool (decide (y<0)))).other (a:=⟨w.heap.size,1,none⟩) (by dsimp only;omega) (.slice ay (lenB y.natAbs) dy)).other (a:=⟨w.heap.size+1,0,none⟩) (by dsimp only;omega) (.bool (decide (R<0)))).other (a:=⟨w.heap.size+1,1,none⟩) (by dsimp only;omega) (.slice ar (lenB R.natAbs) (lenB R.natAbs)));have g1:=(((((HBU.o.setCell (p:=⟨w.heap.size,0,none⟩) zj (.bool (decide (y<0)))).setCell (p:=⟨w.heap.size,1,none⟩) zj (.slice ay (lenB y.natAbs) dy)).setCell (p:=⟨w.heap.size+1,0,none⟩) (by dsimp only;omega) (.bool (decide (R<0)))).setCell (p:=⟨w.heap.size+1,1,none⟩) (by dsimp only;omega) (.slice ar (lenB R.natAbs) (lenB R.natAbs))).drew);have n1:=((((HYU.o.set (p:=⟨w.heap.size,0,none⟩) zj (by dsimp only;omega) (.bool (decide (y<0)))).set (p:=⟨w.heap.size,1,none⟩) zj (by dsimp only;omega) (.slice ay (lenB y.natAbs) dy)).set (p:=⟨w.heap.size+1,0,none⟩) (by dsimp only;omega) (by dsimp only;omega) (.bool (decide (R<0)))).set (p:=⟨w.heap.size+1,1,none⟩) (by dsimp only;omega) (by dsimp only;omega) (.slice ar (lenB R.natAbs) (lenB R.natAbs)))
    have hRs:R.natAbs<y.natAbs:=by have h1:=Int.emod_nonneg x HY1.o;have h2:=Int.emod_lt x HY1.o;have h3:=HRX.o;omega
    have n2a:Nm U w.heap.size (w.heap.size+3) R ar (lenB R.natAbs):=⟨⟨HORU.o.rd,fun h0 p hp=>Or.inr (zm hwo (HORU.o.blk hp).2.1)⟩,zj,zm (lenB_mono (Nat.le_of_lt hRs)) HY.o.small⟩;have n2:=((((n2a.set (p:=⟨w.heap.size,0,none⟩) zj (by dsimp only;omega) (.bool (decide (y<0)))).set (p:=⟨w.heap.size,1,none⟩) zj (by dsimp only;omega) (.slice ay (lenB y.natAbs) dy)).set (p:=⟨w.heap.size+1,0,none⟩) (by dsimp only;omega) (by dsimp only;omega) (.bool (decide (R<0)))).set (p:=⟨w.heap.size+1,1,none⟩) (by dsimp only;omega) (by dsimp only;omega) (.slice ar (lenB R.natAbs) (lenB R.natAbs)));have P1:=qh m1;have P2:=qh m2;have P3:=qh m3;have PG:=qh g1;have PN1:=qh n1;have PN2:=qh n2;have HRS:=qh hRs;clear m1 m2 m3 g1 n1 n2 n2a hRs hwo b10 b11 b12 b13 b20 b21 b22 b23 b30 b31 b32 b33;go_wp2_with fail
    go_roundw
    case rel =>
     refine⟨y,R,ay,ar,dy,lenB R.natAbs,?_,PN1.o.below zk.drew,PN2.o.below zk.drew,?_,P2.o,P3.o,PG.o⟩
     ·rw[HRX.o,<- gcd_step];exact HG.o
     ·exact P1.o
    case measure =>
     rw[HM0.o];have h:=gmeas_eq (M:=R.natAbs) P2.o PN2.o.r.rd;exact Nat.lt_of_le_of_lt (Nat.le_of_eq h) HRS.o
def Bxs (w:World) (b:Nat) (t:TypeId) (l:List Value):Prop:=w.heap[b]?=some (.cells l.toArray t (0,0))
theorem Bxs.cell {w:World} {b:Nat} {t:TypeId} {l:List Value} (h:Bxs w b t l) {i:Nat} {v:Value} (hi:l[i]?=some v):w.cell? ⟨b,i,none⟩=some v:=by
 rw[cell_of_row _ _ _ _ _ _ h]
 simpa using hi
theorem Bxs.ce {w:World} {b:Nat} {t:TypeId} {l:List Value} (h:Bxs w b t l) (i:Nat) {v:Value} (hi:l[i]?=some v:=by exact rfl):w.cell? ⟨b,i,none⟩=some v:=h.cell hi
theorem Bxs.fz {w:World} {b:Nat} {t:TypeId} {l:List Value} (h:Bxs w b t l) (i:Nat):w.frozen? ⟨b,i,none⟩=false:=by
 simp only[World.frozen?];have h':w.heap[b]?=some (.cells l.toArray t (0,0)):=h;simp[h']
theorem Bxs.lt {w:World} {b:Nat} {t:TypeId} {l:List Value} (h:Bxs w b t l):b<w.heap.size:=(Array.getElem?_eq_some_iff.1 h).1
theorem Bxs.of {w w':World} {b:Nat} {t:TypeId} {l:List Value} (h:Bxs w b t l) (e:w'.heap[b]?=w.heap[b]?):Bxs w' b t l:=e.trans h
theorem Bxs.below {W w:World} {b B:Nat} {t:TypeId} {l:List Value} (h:Bxs W b t l) (hb:Below B W w) (hlt:b<B):Bxs w b t l:=h.of (hb.block b hlt)
theorem Bxs.bl {W w:World} {b:Nat} {t:TypeId} {l:List Value} (h:Bxs W b t l) (hb:Below W.heap.size W w):Bxs w b t l:=h.below hb h.lt
theorem Bxs.alloc {w:World} {b:Nat} {t:TypeId} {l:List Value} (h:Bxs w b t l) (o:Obj):Bxs (w.alloc o) b t l:=h.of (heap_alloc_old w o h.lt)
theorem Bxs.other {w:World} {b:Nat} {t:TypeId} {l:List Value} (h:Bxs w b t l) {a:Addr} (ha:b≠a.block) (v:Value):Bxs (w.setCell a v) b t l:=h.of (Below.heap_setCell _ _ _ _ ha)
theorem Bxs.oz {w:World} {b:Nat} {t:TypeId} {l:List Value} (h:Bxs w b t l) {a:Addr} {v:Value} (ha:b≠a.block:=by dsimp only;omega):Bxs (w.setCell a v) b t l:=h.other ha v
theorem Bxs.new (w:World) (t:TypeId) (l:List Value):Bxs (w.alloc (.cells l.toArray t)) w.heap.size t l:=heap_alloc_new w _
theorem Bxs.put {w:World} {b:Nat} {t:TypeId} {l:List Value} (h:Bxs w b t l) (i:Nat) (v:Value):Bxs (w.setCell ⟨b,i,none⟩ v) b t (l.set i v):=by
 have h1:=heap_setCell_same w b i l.toArray t v h;rw[List.setIfInBounds_toArray] at h1;exact h1
theorem Bxs.bx {w:World} {b:Nat} {t:TypeId} {x y:Value} (h:Bxs w b t [x,y]):Bx w b t x y:=h
abbrev fracV (s1:Bool) (a1:Option Addr) (n1 c1:Nat) (s2:Bool) (a2:Option Addr) (n2 c2:Nat):Value:=.agg #[.bool s1,.slice a1 n1 c1,.bool s2,.slice a2 n2 c2]
end Limb
namespace Limb
open Go.RowKit Go.Sort Go.ChangeShapes Go.WideShapes Go.ChangeAt
theorem cellsFrac:Tryz.prog.cellsOf 32=4:=by kernel_rfl
theorem open_numT {H:Type} {enc:TypeId × Value->H} {W:World} {sp:Nat->Bool} {hd:Bool} {fuel:Nat} {l:List Value} {x:DataW H × List MemPlace}
  (hf:DataW.trod enc Tryz.prog W 0 sp hd fuel 30 l=some x):∃ s a n c o,l=[.bool s,.slice a n c]/\Rd W a n o/\n<=c:=by
 obtain⟨xs,m,_,_,hlen,hxl,hfld⟩:=DataW.trod_struct Tryz.underlying30 hf;have hlen:l.length=2:=hlen.trans cellsNum
 obtain⟨x0,x1,rfl⟩:∃ x0 x1,l=[x0,x1]:=by
  match l,hlen with
  | [x0,x1],_=>exact⟨x0,x1,rfl⟩
 have h0:DataW.trod enc Tryz.prog W 0 sp hd m 4 (([x0,x1].drop 0).take (Tryz.prog.cellsOf 4))=xs[0]?:=hfld 0 _ rfl;have h1:DataW.trod enc Tryz.prog W 0 sp hd m 28 (([x0,x1].drop 1).take (Tryz.prog.cellsOf 28))=xs[1]?:=hfld 1 _ rfl;have hx:xs.length=2:=hxl;rw[List.getElem?_eq_getElem (by omega)] at h0;rw[List.getElem?_eq_getElem (by omega)] at h1;rw[cellsBool] at h0;rw[cellsList] at h1;obtain⟨s,e0,_⟩:=DataW.trod_bool Tryz.underlying4 h0;obtain⟨a,n,c,o,e1,hr,hl⟩:=open_list (v:=x1) h1
 have e0:x0=.bool s:=by
  have:[x0]=[Value.bool s]:=e0
  simpa using this
 exact⟨s,a,n,c,o,by rw[e0,e1],hr,hl⟩
theorem open_fracT {H:Type} {enc:TypeId × Value->H} {W:World} {sp:Nat->Bool} {hd:Bool} {fuel:Nat} {l:List Value} {x:DataW H × List MemPlace}
  (hf:DataW.trod enc Tryz.prog W 0 sp hd fuel 32 l=some x):∃ s1 a1 n1 c1 o1 s2 a2 n2 c2 o2,l=[.bool s1,.slice a1 n1 c1,.bool s2,.slice a2 n2 c2]/\Rd W a1 n1 o1/\n1<=c1/\Rd W a2 n2 o2/\n2<=c2:=by
 obtain⟨xs,m,_,_,hlen,hxl,hfld⟩:=DataW.trod_struct Tryz.underlying32 hf;have hlen:l.length=4:=hlen.trans cellsFrac
 obtain⟨x0,x1,x2,x3,rfl⟩:∃ x0 x1 x2 x3,l=[x0,x1,x2,x3]:=by
  match l,hlen with
  | [x0,x1,x2,x3],_=>exact⟨x0,x1,x2,x3,rfl⟩
 have h0:DataW.trod enc Tryz.prog W 0 sp hd m 30 (([x0,x1,x2,x3].drop 0).take (Tryz.prog.cellsOf 30))=xs[0]?:=hfld 0 _ rfl;have h1:DataW.trod enc Tryz.prog W 0 sp hd m 30 (([x0,x1,x2,x3].drop 2).take (Tryz.prog.cellsOf 30))=xs[1]?:=hfld 1 _ rfl;have hx:xs.length=2:=hxl;rw[List.getElem?_eq_getElem (by omega)] at h0;rw[List.getElem?_eq_getElem (by omega)] at h1;rw[cellsNum] at h0 h1;obtain⟨s1,a1,n1,c1,o1,e1,r1,l1⟩:=open_numT h0;obtain⟨s2,a2,n2,c2,o2,e2,r2,l2⟩:=open_numT h1;have e1:[x0,x1]=[.bool s1,.slice a1 n1 c1]:=e1;have e2:[x2,x3]=[.bool s2,.slice a2 n2 c2]:=e2;simp only[List.cons.injEq,and_true] at e1 e2;exact⟨s1,a1,n1,c1,o1,s2,a2,n2,c2,o2,by rw[e1.1,e1.2,e2.1,e2.2],r1,l1,r2,l2⟩
end Limb
namespace Limb
open Go.RowKit Go.Sort Go.Fresh
open Classical in
theorem rgcd_any (s1:Bool) (a1:Option Addr) (n1 c1:Nat) (o1:Nat->Int) (s2:Bool) (a2:Option Addr) (n2 c2:Nat) (o2:Nat->Int) (w:World)
  (h1:Rd w a1 n1 o1) (hn1:n1<=10000000) (hc1:n1<=c1) (h2:Rd w a2 n2 o2) (hn2:n2<=10000000) (hc2:n2<=c2) :
  Calls Tryz.prog 191 #[numV s1 a1 n1 c1,numV s2 a2 n2 c2] w (ResF w (Int.gcd (valN s1 n1 o1) (valN s2 n2 o2):Nat)):=by
 obtain⟨x1,d1,r1,l1,m1,O1⟩:=fit_any s1 a1 n1 c1 o1 w h1 (by omega) hc1;obtain⟨x2,d2,r2,l2,m2,O2⟩:=fit_any s2 a2 n2 c2 o2 w h2 (by omega) hc2
 generalize valN s1 n1 o1=z1 at r1 l1 m1 O1 ⊢
 generalize valN s2 n2 o2=z2 at r2 l2 m2 O2 ⊢
 have HR:=qh (And.intro r1 r2);have HLE:=qh (show lenB z1.natAbs<=10000000/\lenB z2.natAbs<=10000000 by omega);have HO1:=qh O1;have HO2:=qh O2;obtain⟨G,hG⟩:∃ G:Nat,G=Int.gcd z1 z2:=⟨_,rfl⟩;rw[<- hG];have HGC:=qh hG;have B1:=(((Bx.new w 30 (.bool s1) (.slice a1 n1 c1)).alloc (.cells #[.bool s2,.slice a2 n2 c2] 30)).alloc (.cells #[.bool false,.slice none 0 0] 30));have B2:=((Bx.new2 w (.cells #[.bool s1,.slice a1 n1 c1] 30) 30 (.bool s2) (.slice a2 n2 c2)).alloc (.cells #[.bool false,.slice none 0 0] 30));have B3:=(Bx.new3 w (.cells #[.bool s1,.slice a1 n1 c1] 30) (.cells #[.bool s2,.slice a2 n2 c2] 30) 30 (.bool false) (.slice none 0 0));clear O1 O2 r1 r2 l1 l2 m1 m2 h1 h2 hG;go_enter Tryz.func191,Tryz.ntmps191
 go_upto_region 1 with (fail)
 obtain⟨W,hW⟩:∃ W,W=(((w.alloc (.cells #[.bool s1,.slice a1 n1 c1] 30)).alloc (.cells #[.bool s2,.slice a2 n2 c2] 30)).alloc (.cells #[.bool false,.slice none 0 0] 30)):=⟨_,rfl⟩;have G1:=qh ((zk.alloc (by go_size) _ |>.alloc (by go_size) _ |>.alloc (by go_size) _):Below w.heap.size w (((w.alloc (.cells #[.bool s1,.slice a1 n1 c1] 30)).alloc (.cells #[.bool s2,.slice a2 n2 c2] 30)).alloc (.cells #[.bool false,.slice none 0 0] 30)))
 have hWs:w.heap.size+3=W.heap.size:=by rw[hW];simp
 rw[<- hW] at B1 B2 B3 G1;rw[show(((w.alloc (.cells #[.bool s1,.slice a1 n1 c1] 30)).alloc (.cells #[.bool s2,.slice a2 n2 c2] 30)).alloc (.cells #[.bool false,.slice none 0 0] 30))=W from hW.symm];have HB1:=qh B1;have HB2:=qh B2;have HB3:=qh B3;have HWS:=qh hWs;clear hW B1 B2 B3 hWs;obtain⟨b10,b11,b12,b13⟩:=HB1.o.all;go_wp2_with fail
 refine(HO1.o _ G1.o).mono ?_;rintro e w1 ⟨rfl,hb1⟩;have TW:=qh (twin_any (decide (z1<0)) x1 (lenB z1.natAbs) d1 (dgi z1.natAbs) w1 (HR.o.1.below (G1.o.trans (hb1.mono G1.o.size))) (by have:=HLE.o;omega));have GB:=qh hb1;clear hb1 HO1;go_wp2_with fail
 refine TW.o.mono ?_;rintro e w2 ⟨t1,e1,rfl,ho,-,hb2⟩;have HT1:=qh (ho.mono GB.o.size);have GB:=qk GB hb2;have M1:=HB1.o.below GB.o HB1.o.lt;clear ho hb2 TW b10 b11 b12 b13;obtain⟨b10,b11,b12,b13⟩:=M1.all;clear M1
 go_upto_region 2 with (fail)
 obtain⟨V,hV⟩:∃ V,V=((w2.setCell ⟨w.heap.size,0,none⟩ (.bool (decide (z1<0)))).setCell ⟨w.heap.size,1,none⟩ (.slice t1 (lenB z1.natAbs) e1)):=⟨_,rfl⟩;have hws:=HWS.o;have HV1:=qh (show Bx V w.heap.size 30 (.bool (decide (z1<0))) (.slice t1 (lenB z1.natAbs) e1) by rw[hV];exact(HB1.o.below GB.o HB1.o.lt).set _ _);have HV2:=qh (show Bx V (w.heap.size+1) 30 (.bool s2) (.slice a2 n2 c2) by rw[hV];exact((HB2.o.below GB.o HB2.o.lt).oz).oz);have HV3:=qh (show Bx V (w.heap.size+1+1) 30 (.bool false) (.slice none 0 0) by rw[hV];exact((HB3.o.below GB.o HB3.o.lt).oz).oz);have HVT:=qh (show Own 128 V W.heap.size t1 (lenB z1.natAbs) e1 (dgi z1.natAbs) by rw[hV];exact(HT1.o.oz).oz);have HVG:=qh (show Below w.heap.size w V by rw[hV];exact((G1.o.trans (GB.o.mono G1.o.size)).setCell zj _).setCell zj _);have HVS:=qh (show W.heap.size<=V.heap.size by rw[hV];simp only[World.size_setCell];exact GB.o.size);rw[show((w2.setCell ⟨w.heap.size,0,none⟩ (.bool (decide (z1<0)))).setCell ⟨w.heap.size,1,none⟩ (.slice t1 (lenB z1.natAbs) e1))=V from hV.symm];clear hV hws b10 b11 b12 b13 HT1 GB HB1 HB2 HB3;obtain⟨b20,b21,b22,b23⟩:=HV2.o.all;go_wp2_with fail
 refine(HO2.o _ HVG.o).mono ?_;rintro e w3 ⟨rfl,hb3⟩;have TW:=qh (twin_any (decide (z2<0)) x2 (lenB z2.natAbs) d2 (dgi z2.natAbs) w3 (HR.o.2.below (HVG.o.trans (hb3.mono HVG.o.size))) (by have:=HLE.o;omega));have GB:=qh hb3;clear hb3 HO2;go_wp2_with fail
 refine TW.o.mono ?_;rintro e w4 ⟨t2,e2,rfl,ho,-,hb4⟩;have HT2:=qh (ho.mono (zm HVS.o GB.o.size));have GB:=qk GB hb4;have M2:=HV2.o.below GB.o HV2.o.lt;have HT1:=qh (HVT.o.below GB.o);have M1:=qh (HV1.o.below GB.o HV1.o.lt);have M3:=qh (HV3.o.below GB.o HV3.o.lt);have HM2:=qh M2;clear ho hb4 TW b20 b21 b22 b23;obtain⟨b20,b21,b22,b23⟩:=M2.all;clear M2;go_wp2_with fail
 have hws:=HWS.o;have K1:=qh ((M1.o.other (a:=⟨w.heap.size+1,0,none⟩) (by dsimp only;omega) (.bool (decide (z2<0)))).other (a:=⟨w.heap.size+1,1,none⟩) (by dsimp only;omega) (.slice t2 (lenB z2.natAbs) e2));have K2:=qh (HM2.o.set (.bool (decide (z2<0))) (.slice t2 (lenB z2.natAbs) e2));have K3:=qh ((M3.o.other (a:=⟨w.heap.size+1,0,none⟩) (by dsimp only;omega) (.bool (decide (z2<0)))).other (a:=⟨w.heap.size+1,1,none⟩) (by dsimp only;omega) (.slice t2 (lenB z2.natAbs) e2));have KT1:=qh ((HT1.o.other (p:=⟨w.heap.size+1,0,none⟩) (by dsimp only;omega) (.bool (decide (z2<0)))).other (p:=⟨w.heap.size+1,1,none⟩) (by dsimp only;omega) (.slice t2 (lenB z2.natAbs) e2));have KT2:=qh ((HT2.o.other (p:=⟨w.heap.size+1,0,none⟩) (by dsimp only;omega) (.bool (decide (z2<0)))).other (p:=⟨w.heap.size+1,1,none⟩) (by dsimp only;omega) (.slice t2 (lenB z2.natAbs) e2));have KG:=qh (((HVG.o.trans (GB.o.mono HVG.o.size)).setCell (p:=⟨w.heap.size+1,0,none⟩) (by dsimp only;omega) (.bool (decide (z2<0)))).setCell (p:=⟨w.heap.size+1,1,none⟩) (by dsimp only;omega) (.slice t2 (lenB z2.natAbs) e2));clear hws b20 b21 b22 b23 HT1 HT2 M1 M3 HM2 HV1 HV2 HV3 HVT HVG HVS GB
 go_loopw [] (fun wr=>∃ (x y:Int) (ax ay:Option Addr) (dx dy:Nat),Int.gcd x y=G/\(lenB x.natAbs<=10000000/\lenB y.natAbs<=10000000)/\Own 128 wr W.heap.size ax (lenB x.natAbs) dx (dgi x.natAbs)/\Own 128 wr W.heap.size ay (lenB y.natAbs) dy (dgi y.natAbs) /\
   Bx wr w.heap.size 30 (.bool (decide (x<0))) (.slice ax (lenB x.natAbs) dx)/\Bx wr (w.heap.size+1) 30 (.bool (decide (y<0))) (.slice ay (lenB y.natAbs) dy)/\Bx wr (w.heap.size+1+1) 30 (.bool false) (.slice none 0 0)/\Below w.heap.size w wr) (fun wr=>gmeas wr (w.heap.size+1))
 case atStart=>exact⟨z1,z2,t1,t2,e1,e2,HGC.o.symm,HLE.o,KT1.o,KT2.o,K1.o,K2.o,K3.o,KG.o⟩
 case round =>
  obtain⟨x,y,ax,ay,dx,dy,hg,hle,hx,hy,hB1,hB2,hB3,hb⟩:=hrel;obtain⟨wo,rfl⟩:∃ wo:World,wo=wr:=⟨_,rfl⟩;have HX:=qh hx;have HY:=qh hy;have HG:=qh hg;have HB:=qh hb;have HL:=qh hle;have HB1:=qh hB1;have HB2:=qh hB2;have HB3:=qh hB3;have HM0:=qh (gmeas_eq hB2 hy.rd);obtain⟨b10,b11,b12,b13⟩:=hB1.all;obtain⟨b20,b21,b22,b23⟩:=hB2.all;obtain⟨b30,b31,b32,b33⟩:=hB3.all;clear hx hy hg hb hB1 hB2 hB3 hle;obtain⟨Ly,hLy⟩:∃ Ly,Ly=lenB y.natAbs:=⟨_,rfl⟩;rw[<- hLy] at b21;have HLY:=qh hLy
  have hsy:Ly<=10000000:=by rw[hLy];exact HL.o.2
  clear hLy;by_cases hy0:Ly=0
  ·subst hy0;have NU:=qh (num_own false false ax (lenB x.natAbs) dx x.natAbs W.heap.size (dgi x.natAbs) wo HX.o (dgi_Dig _ _) (by have:=HL.o;omega) (sumB_dgi _) rfl)
   have hy1:y=0:=by have:=lenB_eq_zero.1 HLY.o.symm;omega
   have hG:G=x.natAbs:=by rw[<- HG.o,hy1,Int.gcd_zero_right]
   have HGX:=qh hG;clear hG hy1;go_wp2_with fail
   refine NU.o.mono ?_;rintro e w5 ⟨rfl,hb5⟩;have M3:=HB3.o.bl hb5;have HM3:=qh M3;have HO5:=qh (HX.o.below hb5);have HB5:=qh (HB.o.trans (hb5.mono HB.o.size));clear hb5 NU b10 b11 b12 b13 b20 b21 b22 b23 b30 b31 b32 b33;obtain⟨b30,b31,b32,b33⟩:=M3.all;clear M3;go_wp2_with fail
   have hws:=HWS.o;have HH:=qh (HM3.o.set (.bool false) (.slice ax (lenB x.natAbs) dx));refine bodyPost_ret (results_cell rfl _ _ _ _ _ _ _ rfl HH.o Tryz.underlying30 rfl (by kernel_rfl)) rfl ⟨ax,dx,?_,?_,?_⟩
   ·rw[Int.natAbs_natCast,HGX.o,zo (show ¬((x.natAbs:Nat):Int)<0 by omega)]
   ·rw[Int.natAbs_natCast,HGX.o];exact((HO5.o.oz).oz).mono (by omega)
   ·exact(HB5.o.sc).sc
  ·have hy1:¬y=0:=fun h=>hy0 (by rw[HLY.o,h];exact lenB_zero)
   have hpos:0<Ly:=by omega
   have HY1:=qh hy1;have DV:=qh (rdiv_ok x y ax ay dx dy wo HX.o.rd HL.o.1 HX.o.le HY.o.rd HL.o.2 HY.o.le hy1);rw[<- HLY.o] at DV;clear hy1;go_wp2_with fail
   refine DV.o.mono ?_;rintro e w4 ⟨aq,cq,ar,cr,rfl,-,hor,hb4⟩;obtain⟨R,hR⟩:∃ R,R=x%y:=⟨_,rfl⟩;obtain⟨Q,hQ⟩:∃ Q,Q=x/y:=⟨_,rfl⟩;rw[<- hR] at hor ⊢;rw[<- hQ];have hws:=HWS.o
   have hwo:W.heap.size<=wo.heap.size:=by have:=HB3.o.lt;omega
   have HOR:=qh (hor.mono hwo);have HRX:=qh hR;have HB4:=qh hb4;have HRS:=qh (show R.natAbs<y.natAbs by have h1:=Int.emod_nonneg x HY1.o;have h2:=Int.emod_lt x HY1.o;omega);have M1:=HB1.o.bl hb4;have M2:=HB2.o.bl hb4;have HM:=qh (And.intro M1 (And.intro M2 (HB3.o.bl hb4)));clear hor hR hQ hb4 DV hws hwo b10 b11 b12 b13 b20 b21 b22 b23 b30 b31 b32 b33
   go_upto_region 5 with (fail)
   obtain⟨U,hU⟩:∃ U,U=(w4.alloc (.cells #[.bool (decide (Q<0)),.slice aq (lenB Q.natAbs) cq] 30)).alloc (.cells #[.bool (decide (R<0)),.slice ar (lenB R.natAbs) cr] 30):=⟨_,rfl⟩
   have hbU:Below w4.heap.size w4 U:=by rw[hU];exact(zk.alloc zj _).alloc (by simp) _
   have HRB:=qh (show Bx U (w4.heap.size+1) 30 (.bool (decide (R<0))) (.slice ar (lenB R.natAbs) cr) by rw[hU];exact Bx.new2 w4 _ _ _ _);rw[show(w4.alloc (.cells #[.bool (decide (Q<0)),.slice aq (lenB Q.natAbs) cq] 30)).alloc (.cells #[.bool (decide (R<0)),.slice ar (lenB R.natAbs) cr] 30)=U from hU.symm];have M1:=HM.o.1.below hbU HM.o.1.lt;have M2:=HM.o.2.1.below hbU HM.o.2.1.lt;have M3:=HM.o.2.2.below hbU HM.o.2.2.lt;have HMU:=qh (And.intro M1 (And.intro M2 M3));have HYU:=qh ((HY.o.below HB4.o).below hbU);have HORU:=qh (HOR.o.below hbU);have HBU:=qh (HB.o.trans ((HB4.o.trans (hbU.mono HB4.o.size)).mono HB.o.size));obtain⟨br,hbr⟩:∃ br,br=w4.heap.size+1:=⟨_,rfl⟩
   have hbr2:w.heap.size+3<br:=by have h1:=HB3.o.lt;have h2:=HB4.o.size;omega
   rw[<- hbr] at HRB ⊢;clear hU hbU M3 HM HOR;obtain⟨b10,b11,b12,b13⟩:=M1.all;obtain⟨b20,b21,b22,b23⟩:=M2.all;obtain⟨b30,b31,b32,b33⟩:=HRB.o.all;clear M1 M2
   have ne1:¬br=w.heap.size:=by omega
   have ne2:¬br=w.heap.size+1:=by omega
   have ne3:¬w.heap.size=br:=by omega
   have ne4:¬w.heap.size+1=br:=by omega
   clear hbr hbr2;go_wp2_with fail
   clear ne1 ne2 ne3 ne4;have hws:=HWS.o;have m1:=(((HMU.o.1.set (.bool (decide (y<0))) (.slice ay (lenB y.natAbs) dy)).other (a:=⟨w.heap.size+1,0,none⟩) (by dsimp only;omega) (.bool (decide (R<0)))).other (a:=⟨w.heap.size+1,1,none⟩) (by dsimp only;omega) (.slice ar (lenB R.natAbs) cr));have m2:=(((HMU.o.2.1.other (a:=⟨w.heap.size,0,none⟩) (by dsimp only;omega) (.bool (decide (y<0)))).other (a:=⟨w.heap.size,1,none⟩) (by dsimp only;omega) (.slice ay (lenB y.natAbs) dy)).set (.bool (decide (R<0))) (.slice ar (lenB R.natAbs) cr));have m3:=((((HMU.o.2.2.other (a:=⟨w.heap.size,0,none⟩) (by dsimp only;omega) (.bool (decide (y<0)))).other (a:=⟨w.heap.size,1,none⟩) (by dsimp only;omega) (.slice ay (lenB y.natAbs) dy)).other (a:=⟨w.heap.size+1,0,none⟩) (by dsimp only;omega) (.bool (decide (R<0)))).other (a:=⟨w.heap.size+1,1,none⟩) (by dsimp only;omega) (.slice ar (lenB R.natAbs) cr));have g1:=((((HBU.o.setCell (p:=⟨w.heap.size,0,none⟩) zj (.bool (decide (y<0)))).setCell (p:=⟨w.heap.size,1,none⟩) zj (.slice ay (lenB y.natAbs) dy)).setCell (p:=⟨w.heap.size+1,0,none⟩) (by dsimp only;omega) (.bool (decide (R<0)))).setCell (p:=⟨w.heap.size+1,1,none⟩) (by dsimp only;omega) (.slice ar (lenB R.natAbs) cr));have n1:=((((HYU.o.other (p:=⟨w.heap.size,0,none⟩) (by dsimp only;omega) (.bool (decide (y<0)))).other (p:=⟨w.heap.size,1,none⟩) (by dsimp only;omega) (.slice ay (lenB y.natAbs) dy)).other (p:=⟨w.heap.size+1,0,none⟩) (by dsimp only;omega) (.bool (decide (R<0)))).other (p:=⟨w.heap.size+1,1,none⟩) (by dsimp only;omega) (.slice ar (lenB R.natAbs) cr))
   have n2:=((((HORU.o.other (p:=⟨w.heap.size,0,none⟩) (by dsimp only;omega) (.bool (decide (y<0)))).other (p:=⟨w.heap.size,1,none⟩) (by dsimp only;omega) (.slice ay (lenB y.natAbs) dy)).other (p:=⟨w.heap.size+1,0,none⟩) (by dsimp only;omega) (.bool (decide (R<0)))).other (p:=⟨w.heap.size+1,1,none⟩) (by dsimp only;omega) (.slice ar (lenB R.natAbs) cr));have P1:=qh m1;have P2:=qh m2;have P3:=qh m3;have PG:=qh g1;have PN1:=qh n1;have PN2:=qh n2;clear m1 m2 m3 g1 n1 n2 b10 b11 b12 b13 b20 b21 b22 b23 b30 b31 b32 b33 hws;go_roundw
   case rel =>
    refine⟨y,R,ay,ar,dy,cr,?_,⟨HL.o.2,zm (lenB_mono (Nat.le_of_lt HRS.o)) HL.o.2⟩,PN1.o,PN2.o,P1.o,P2.o,P3.o,PG.o⟩;rw[HRX.o,<- gcd_step];exact HG.o
   case measure =>
    rw[HM0.o];have h:=gmeas_eq (M:=R.natAbs) P2.o PN2.o.rd;exact Nat.lt_of_le_of_lt (Nat.le_of_eq h) HRS.o
theorem gcd_len (x y:Int):lenB (Int.gcd x y)<=lenB x.natAbs+lenB y.natAbs:=by
 by_cases hx:x=0
 ·subst hx;rw[Int.gcd_zero_left];have:=lenB_zero;omega
 ·have h:Int.gcd x y ∣ x.natAbs:=Int.natCast_dvd_natCast.1 (by rw[Int.dvd_natAbs];exact Int.gcd_dvd_left x y);have:=lenB_mono (Nat.le_of_dvd (by omega) h);omega
theorem cmp_one (z:Int):decide (cmpZ z 1=0)=decide (z=1):=by
 rcases Int.lt_trichotomy z 1 with h | h | h
 ·rw[cmpZ_lt h];exact decide_eq_decide.2 (by omega)
 ·rw[cmpZ_eq h];exact decide_eq_decide.2 (by omega)
 ·rw[cmpZ_gt h];exact decide_eq_decide.2 (by omega)
theorem unit_any (s:Bool) (a:Option Addr) (n c:Nat) (o:Nat->Int) (w:World) (h:Rd w a n o) (hn:n<=10000000) (hc:n<=c) :
  Calls Tryz.prog 179 #[numV s a n c] w fun e w'=>e=.returned (.bool (decide (valN s n o=1)))/\Below w.heap.size w w':=by
 obtain⟨z,hz⟩:∃ z,z=valN s n o:=⟨_,rfl⟩;obtain⟨one,hone⟩:∃ one:Int,one=1:=⟨_,rfl⟩;have HB:=qh (Bx.new w 30 (.bool s) (.slice a n c));obtain⟨W,hW⟩:∃ W,W=w.alloc (.cells #[.bool s,.slice a n c] 30):=⟨_,rfl⟩
 have hbW:Below w.heap.size w W:=by rw[hW];exact zk.alloc zj _
 rw[<- hW] at HB;have OF:=qh (show ∀ w',Calls Tryz.prog 106 #[.int .i64 1] w' (ResN w' one) from fun w'=>by rw[hone];exact of64_any 1 w' (by omega) (by omega));have HL1:=qh (show lenB one.natAbs<=1 by rw[hone];exact lenB_le (by decide));have CM:=qh (fun (w':World) (hb:Below W.heap.size W w') (x:Option Addr) (ho:Own 128 w' W.heap.size x (lenB one.natAbs) (lenB one.natAbs) (dgi one.natAbs))=>cmp_any s a n c o (decide (one<0)) x (lenB one.natAbs) (lenB one.natAbs) (dgi one.natAbs) w' (h.below (hbW.trans (hb.mono hbW.size))) (by omega) hc ho.rd (by have:=HL1.o;omega) zj);rw[canon_val,<- hz] at CM;obtain⟨cz,hcz⟩:∃ cz,cz=cmpZ z one:=⟨_,rfl⟩;rw[<- hcz] at CM
 have hres:decide (cz=0)=decide (z=1):=by rw[hcz,hone];exact cmp_one z
 rw[<- hz];have HRES:=qh hres;have HBW:=qh hbW;have HW:=qh hW;clear hz hone hcz hres hbW hW h;go_enter Tryz.func179,Tryz.ntmps179
 go_upto_region 1 with (fail)
 rw[show w.alloc (.cells #[.bool s,.slice a n c] 30)=W from HW.o.symm];clear HW
 refine wp_region_fresh 2 (spOf [(1,Sp.made (fun x:Option Addr=>numV (decide (one<0)) x (lenB one.natAbs) (lenB one.natAbs)) (fun x w'=>Own 128 w' W.heap.size x (lenB one.natAbs) (lenB one.natAbs) (dgi one.natAbs)))]) (fun w'=>Below W.heap.size W w') (by kernel_rfl) (by kernel_rfl)
  (spOf_cons (Sp.made_keeps fun x w w' h hb=>h.below hb) spOf_nil) (fun _ _ h hb=>h.trans (hb.mono h.size)) (zk.drew) ?_
 simp only[zx,zy,zv,zw]
 (refine wpF_reads rfl rfl ?_ (fun w' hw'=>?_) ?_;rotate_left;· (have hb':=Has.world hw';(obtain⟨x0,x1,x2,x3⟩:=(HB.o.bl hb').all);clear hw';go_simp;try rfl))
 conv=>arg 9;simp only[Act.put,zq0,zq1,zq2]
 (refine wpF_spec rfl rfl (fun w' hw'=>?_) ?_;· (have hb':=Has.world hw';go_simp;((refine(OF.o w').mono ?_;rintro e w'' ⟨a,rfl,ho,-,hb⟩;exact⟨_,rfl,⟨⟨a,rfl⟩,⟨a,rfl,ho.mono hb'.size⟩⟩,hb⟩))))
 rintro _ ⟨x,rfl⟩
 conv=>arg 9;simp only[Act.put,zq0,zq1,zq2]
 refine wpF_nil (fun w1 hb1 hF=>?_);have C1:=qh (CM.o w1 hb1 x (own_num1 (T:=128) (b:=W.heap.size) (s:=decide (one<0)) (L:=lenB one.natAbs) (o:=dgi one.natAbs) (a:=x) (hF 1)));have HG:=qh (HBW.o.trans (hb1.mono HBW.o.size));clear hF hb1 CM OF;go_wp2_with fail
 refine C1.o.mono ?_;rintro e w2 ⟨rfl,hb2⟩;have HG2:=qh (HG.o.trans (hb2.mono HG.o.size));clear hb2 C1;go_wp2_with fail
 go_ret;exact⟨by rw[<- HRES.o];first | rfl | (congr 1;simp),HG2.o⟩
theorem frac_box {W:World} {b:Nat} {s1:Bool} {a1:Option Addr} {n1 c1:Nat} {s2:Bool} {a2:Option Addr} {n2 c2:Nat} (h:Bxs W b 32 [.bool s1,.slice a1 n1 c1,.bool s2,.slice a2 n2 c2]) :
  W.cell? ⟨b,0,none⟩=some (.bool s1)/\W.cell? ⟨b,1,none⟩=some (.slice a1 n1 c1)/\W.cell? ⟨b,2,none⟩=some (.bool s2)/\W.cell? ⟨b,3,none⟩=some (.slice a2 n2 c2)/\(∀ i,W.frozen? ⟨b,i,none⟩=false)/\b<W.heap.size :=
 ⟨h.cell rfl,h.cell rfl,h.cell rfl,h.cell rfl,h.fz,h.lt⟩
open Classical in
theorem okF_dec (s1:Bool) (n1:Nat) (o1:Nat->Int) (s2:Bool) (n2:Nat) (o2:Nat->Int) (h1:okN s1 n1 o1) (h2:okN s2 n2 o2) (h3:0<valN s2 n2 o2) :
  decide (okF s1 n1 o1 s2 n2 o2)=decide (((Int.gcd (valN s1 n1 o1) (valN s2 n2 o2):Nat):Int)=1):=by
 refine decide_eq_decide.2 ⟨fun h=>by rw[h.2.2.2];rfl,fun h=>⟨h1,h2,h3,by omega⟩⟩
open Classical in
theorem fcheck_any (s1:Bool) (a1:Option Addr) (n1 c1:Nat) (o1:Nat->Int) (s2:Bool) (a2:Option Addr) (n2 c2:Nat) (o2:Nat->Int) (w:World)
  (h1:Rd w a1 n1 o1) (hn1:n1<=5000000) (hc1:n1<=c1) (h2:Rd w a2 n2 o2) (hn2:n2<=5000000) (hc2:n2<=c2) :
  Calls Tryz.prog 142 #[fracV s1 a1 n1 c1 s2 a2 n2 c2] w fun e w'=>e=.returned (.bool (decide (okF s1 n1 o1 s2 n2 o2)))/\Below w.heap.size w w':=by
 have HB:=qh (Bxs.new w 32 [.bool s1,.slice a1 n1 c1,.bool s2,.slice a2 n2 c2]);obtain⟨W,hW⟩:∃ W,W=w.alloc (.cells #[.bool s1,.slice a1 n1 c1,.bool s2,.slice a2 n2 c2] 32):=⟨_,rfl⟩;have HBW:=qh (show Below w.heap.size w W by rw[hW];exact zk.alloc zj _);rw[show w.alloc (.cells (List.toArray [.bool s1,.slice a1 n1 c1,.bool s2,.slice a2 n2 c2]) 32)=W from hW.symm] at HB;have HW:=qh hW;have GB:=qh (Below.refl W.heap.size W);have CK1:=qh (fun (w':World) (hb:Below W.heap.size W w')=>check_any s1 a1 n1 c1 o1 w' (h1.below (HBW.o.trans (hb.mono HBW.o.size))) (by omega));have CK2:=qh (fun (w':World) (hb:Below W.heap.size W w')=>check_any s2 a2 n2 c2 o2 w' (h2.below (HBW.o.trans (hb.mono HBW.o.size))) (by omega));have SG:=qh (fun (w':World) (hb:Below W.heap.size W w')=>sign_any s2 a2 n2 c2 o2 w' (h2.below (HBW.o.trans (hb.mono HBW.o.size))) (by omega) hc2);have GC:=qh (fun (w':World) (hb:Below W.heap.size W w')=>gcd_any s1 a1 n1 c1 o1 s2 a2 n2 c2 o2 w' (h1.below (HBW.o.trans (hb.mono HBW.o.size))) (by omega) hc1 (h2.below (HBW.o.trans (hb.mono HBW.o.size))) (by omega) hc2)
 have HGL:=qh (show lenB (Int.gcd (valN s1 n1 o1) (valN s2 n2 o2))<=10000000 from by
  obtain⟨_,_,_,l1,_⟩:=of_any s1 a1 n1 c1 o1 w h1 (by omega) hc1;obtain⟨_,_,_,l2,_⟩:=of_any s2 a2 n2 c2 o2 w h2 (by omega) hc2;have:=gcd_len (valN s1 n1 o1) (valN s2 n2 o2)
  omega)
 clear h1 h2 hW;by_cases k1:okN s1 n1 o1
 ·rw[decide_eq_true k1] at CK1;by_cases k2:okN s2 n2 o2
  ·rw[decide_eq_true k2] at CK2;obtain⟨cs,hcs⟩:∃ cs,cs=cmpZ (valN s2 n2 o2) 0:=⟨_,rfl⟩;rw[<- hcs] at SG;by_cases k3:0<valN s2 n2 o2
   ·have hc3:decide (0<cs)=true:=by rw[hcs,cmpZ_gt k3];rfl
    obtain⟨G,hG⟩:∃ G:Int,G=((Int.gcd (valN s1 n1 o1) (valN s2 n2 o2):Nat):Int):=⟨_,rfl⟩;rw[<- hG] at GC;have HGN:=qh (show lenB G.natAbs<=10000000 by rw[hG,Int.natAbs_natCast];exact HGL.o);have RES:=qh (okF_dec s1 n1 o1 s2 n2 o2 k1 k2 k3);rw[<- hG] at RES;clear hG hcs k1 k2 k3;go_enter Tryz.func142,Tryz.ntmps142
    go_upto_region 1 with (fail)
    rw[show w.alloc (.cells #[.bool s1,.slice a1 n1 c1,.bool s2,.slice a2 n2 c2] 32)=W from HW.o.symm];obtain⟨x0,x1,x2,x3,x4,x5⟩:=frac_box HB.o;go_wp2_with fail
    refine(CK1.o _ GB.o).mono ?_;rintro e w' ⟨rfl,hb⟩;have GB:=qk GB hb;clear hb x0 x1 x2 x3 x4 x5;obtain⟨x0,x1,x2,x3,x4,x5⟩:=frac_box (HB.o.below GB.o HB.o.lt);obtain⟨w1,rfl⟩:∃ w1,w1=w':=⟨_,rfl⟩;go_wp2_with fail
    refine(CK2.o _ GB.o).mono ?_;rintro e w' ⟨rfl,hb⟩;have GB:=qk GB hb;clear hb x0 x1 x2 x3 x4 x5;obtain⟨x0,x1,x2,x3,x4,x5⟩:=frac_box (HB.o.below GB.o HB.o.lt);obtain⟨w1,rfl⟩:∃ w1,w1=w':=⟨_,rfl⟩;go_wp2_with fail
    refine(SG.o _ GB.o).mono ?_;rintro e w' ⟨rfl,hb⟩;have GB:=qk GB hb;clear hb x0 x1 x2 x3 x4 x5;obtain⟨x0,x1,x2,x3,x4,x5⟩:=frac_box (HB.o.below GB.o HB.o.lt);obtain⟨w1,rfl⟩:∃ w1,w1=w':=⟨_,rfl⟩;go_wp2_with fail
    refine(GC.o _ GB.o).mono ?_;rintro e w' ⟨x,rfl,ho,-,hb⟩;have UN:=qh (unit_any (decide (G<0)) x (lenB G.natAbs) (lenB G.natAbs) (dgi G.natAbs) w' ho.rd HGN.o zj);rw[canon_val] at UN;have GB:=qk GB hb;clear hb ho x0 x1 x2 x3 x4 x5;go_wp2_with fail
    refine UN.o.mono ?_;rintro e w2 ⟨rfl,hb⟩;have GB:=qk GB hb;clear hb UN;go_wp2_with fail
    go_ret;exact⟨by rw[RES.o];first | rfl | (congr 1;simp),HBW.o.trans (GB.o.mono HBW.o.size)⟩
   ·have hc3:decide (0<cs)=false:=by
     rw[hcs];refine zo ?_
     rcases Int.lt_trichotomy (valN s2 n2 o2) 0 with h | h | h
     ·rw[cmpZ_lt h];omega
     ·rw[cmpZ_eq h];omega
     ·exact absurd h k3
    have RES:=qh (show decide (okF s1 n1 o1 s2 n2 o2)=false from zo fun h=>k3 h.2.2.1);clear hcs k1 k2 k3;go_enter Tryz.func142,Tryz.ntmps142
    go_upto_region 1 with (fail)
    rw[show w.alloc (.cells #[.bool s1,.slice a1 n1 c1,.bool s2,.slice a2 n2 c2] 32)=W from HW.o.symm];obtain⟨x0,x1,x2,x3,x4,x5⟩:=frac_box HB.o;go_wp2_with fail
    refine(CK1.o _ GB.o).mono ?_;rintro e w' ⟨rfl,hb⟩;have GB:=qk GB hb;clear hb x0 x1 x2 x3 x4 x5;obtain⟨x0,x1,x2,x3,x4,x5⟩:=frac_box (HB.o.below GB.o HB.o.lt);obtain⟨w1,rfl⟩:∃ w1,w1=w':=⟨_,rfl⟩;go_wp2_with fail
    refine(CK2.o _ GB.o).mono ?_;rintro e w' ⟨rfl,hb⟩;have GB:=qk GB hb;clear hb x0 x1 x2 x3 x4 x5;obtain⟨x0,x1,x2,x3,x4,x5⟩:=frac_box (HB.o.below GB.o HB.o.lt);obtain⟨w1,rfl⟩:∃ w1,w1=w':=⟨_,rfl⟩;go_wp2_with fail
    refine(SG.o _ GB.o).mono ?_;rintro e w' ⟨rfl,hb⟩;have GB:=qk GB hb;clear hb x0 x1 x2 x3 x4 x5;obtain⟨x0,x1,x2,x3,x4,x5⟩:=frac_box (HB.o.below GB.o HB.o.lt);obtain⟨w1,rfl⟩:∃ w1,w1=w':=⟨_,rfl⟩;go_wp2_with fail
    go_ret;exact⟨by rw[RES.o];rfl,HBW.o.trans (GB.o.mono HBW.o.size)⟩
  ·rw[zo k2] at CK2;have RES:=qh (show decide (okF s1 n1 o1 s2 n2 o2)=false from zo fun h=>k2 h.2.1);clear k1 k2;go_enter Tryz.func142,Tryz.ntmps142
   go_upto_region 1 with (fail)
   rw[show w.alloc (.cells #[.bool s1,.slice a1 n1 c1,.bool s2,.slice a2 n2 c2] 32)=W from HW.o.symm];obtain⟨x0,x1,x2,x3,x4,x5⟩:=frac_box HB.o;go_wp2_with fail
   refine(CK1.o _ GB.o).mono ?_;rintro e w' ⟨rfl,hb⟩;have GB:=qk GB hb;clear hb x0 x1 x2 x3 x4 x5;obtain⟨x0,x1,x2,x3,x4,x5⟩:=frac_box (HB.o.below GB.o HB.o.lt);obtain⟨w1,rfl⟩:∃ w1,w1=w':=⟨_,rfl⟩;go_wp2_with fail
   refine(CK2.o _ GB.o).mono ?_;rintro e w' ⟨rfl,hb⟩;have GB:=qk GB hb;clear hb x0 x1 x2 x3 x4 x5;obtain⟨x0,x1,x2,x3,x4,x5⟩:=frac_box (HB.o.below GB.o HB.o.lt);obtain⟨w1,rfl⟩:∃ w1,w1=w':=⟨_,rfl⟩;go_wp2_with fail
   go_ret;exact⟨by rw[RES.o];rfl,HBW.o.trans (GB.o.mono HBW.o.size)⟩
 ·rw[zo k1] at CK1;have RES:=qh (show decide (okF s1 n1 o1 s2 n2 o2)=false from zo fun h=>k1 h.1);clear k1;go_enter Tryz.func142,Tryz.ntmps142
  go_upto_region 1 with (fail)
  rw[show w.alloc (.cells #[.bool s1,.slice a1 n1 c1,.bool s2,.slice a2 n2 c2] 32)=W from HW.o.symm];obtain⟨x0,x1,x2,x3,x4,x5⟩:=frac_box HB.o;go_wp2_with fail
  refine(CK1.o _ GB.o).mono ?_;rintro e w' ⟨rfl,hb⟩;have GB:=qk GB hb;clear hb x0 x1 x2 x3 x4 x5;obtain⟨x0,x1,x2,x3,x4,x5⟩:=frac_box (HB.o.below GB.o HB.o.lt);obtain⟨w1,rfl⟩:∃ w1,w1=w':=⟨_,rfl⟩;go_wp2_with fail
  go_ret;exact⟨by rw[RES.o];rfl,HBW.o.trans (GB.o.mono HBW.o.size)⟩
def FracR (w:World) (p q:Int) (e:Ending) (w':World):Prop :=
 ∃ a1 a2,e=.returned (fracV (decide (p<0)) a1 (lenB p.natAbs) (lenB p.natAbs) (decide (q<0)) a2 (lenB q.natAbs) (lenB q.natAbs))/\Own 128 w' w.heap.size a1 (lenB p.natAbs) (lenB p.natAbs) (dgi p.natAbs) /\
  Own 128 w' w.heap.size a2 (lenB q.natAbs) (lenB q.natAbs) (dgi q.natAbs)/\Apart2 a1 a2/\Below w.heap.size w w'
def FracS (w:World) (B0:Nat) (p q:Int) (e:Ending) (w':World):Prop :=
 ∃ a1 c1 a2 c2,e=.returned (fracV (decide (p<0)) a1 (lenB p.natAbs) c1 (decide (q<0)) a2 (lenB q.natAbs) c2)/\RdS w' B0 w.heap.size a1 (lenB p.natAbs) (dgi p.natAbs)/\lenB p.natAbs<=c1 /\
  RdS w' B0 w.heap.size a2 (lenB q.natAbs) (dgi q.natAbs)/\lenB q.natAbs<=c2/\Below w.heap.size w w'
theorem RdS.up {w:World} {lo hi hi':Nat} {a:Option Addr} {n:Nat} {o:Nat->Int} (h:RdS w lo hi a n o) (hh:hi'<=hi):RdS w lo hi' a n o:=⟨h.rd,fun h0 p hp=>(h.far h0 p hp).imp id (fun h=>zm hh h)⟩
theorem Own.rdS {T:Nat} {w:World} {base:Nat} {a:Option Addr} {n cap:Nat} {o:Nat->Int} (h:Own T w base a n cap o) (lo hi:Nat) (hh:hi<=base):RdS w lo hi a n o:=⟨h.rd,fun _ p hp=>Or.inr (zm hh (h.blk hp).2.1)⟩
open Classical in
theorem fof_any (n:Int) (w:World) (h1:-9223372036854775808<=n) (h2:n<=9223372036854775807) :
  Calls Tryz.prog 35 #[.int .i64 n] w (FracR w n 1):=by
 obtain⟨one,hone⟩:∃ one:Int,one=1:=⟨_,rfl⟩;have OF1:=qh (fun (w':World)=>of64_any n w' h1 h2);have OF2:=qh (show ∀ w',Calls Tryz.prog 106 #[.int .i64 1] w' (ResN w' one) from fun w'=>by rw[hone];exact of64_any 1 w' (by omega) (by omega));rw[<- hone];have HB:=qh (Bxs.new w 32 [.bool false,.slice none 0 0,.bool false,.slice none 0 0]);have HBW:=qh (show Below w.heap.size w (w.alloc (.cells #[.bool false,.slice none 0 0,.bool false,.slice none 0 0] 32)) from zk.alloc zj _);obtain⟨W,hW⟩:∃ W,W=w.alloc (.cells #[.bool false,.slice none 0 0,.bool false,.slice none 0 0] 32):=⟨_,rfl⟩;rw[show w.alloc (.cells (List.toArray [.bool false,.slice none 0 0,.bool false,.slice none 0 0]) 32)=W from hW.symm] at HB;rw[<- hW] at HBW;have HW:=qh hW;clear h1 h2 hone hW;go_enter Tryz.func35,Tryz.ntmps35
 go_upto_region 1 with (fail)
 rw[show w.alloc (.cells #[.bool false,.slice none 0 0,.bool false,.slice none 0 0] 32)=W from HW.o.symm];go_wp2_with fail
 refine(OF1.o _).mono ?_;rintro e w1 ⟨a1,rfl,ho1,-,hb1⟩;have HO1:=qh ho1;have GB:=qh hb1;clear ho1 hb1;go_wp2_with fail
 refine(OF2.o _).mono ?_;rintro e w2 ⟨a2,rfl,ho2,-,hb2⟩
 have HAP:=qh (show Apart2 a1 a2 from fun p q hp hq e=>by
  have h1:=(HO1.o.blk hp).2.2;have h2:=(ho2.blk hq).2.1
  omega)
 have HO1:=qh (HO1.o.below hb2);have HO2:=qh (ho2.mono GB.o.size);have GB:=qk GB hb2;have HB2:=qh (HB.o.below GB.o HB.o.lt);clear ho2 hb2;obtain⟨x0,x1,x2,x3,x4,x5⟩:=frac_box HB2.o;go_wp2_with fail
 have hlt:=HB.o.lt;have hG:=HBW.o.trans (GB.o.mono HBW.o.size);refine bodyPost_ret (results_cell rfl _ _ _ _ _ _ _ rfl ((((HB2.o.put 0 _).put 1 _).put 2 _).put 3 _) Tryz.underlying32 rfl (by kernel_rfl)) rfl ⟨a1,a2,rfl,?_,?_,HAP.o,?_⟩
 ·exact((((HO1.o.oz).oz).oz).oz).mono (by omega)
 ·exact((((HO2.o.oz).oz).oz).oz).mono (by omega)
 ·exact(((hG.sc).sc).sc).sc
open Classical in
theorem fof2_ok (s1:Bool) (a1:Option Addr) (n1 c1:Nat) (o1:Nat->Int) (s2:Bool) (a2:Option Addr) (n2 c2:Nat) (o2:Nat->Int) (w:World) (B0:Nat) (hB0:B0<=w.heap.size)
  (h1:Rd w a1 n1 o1) (hn1:n1<=5000000) (hc1:n1<=c1) (f1:0<n1->∀ p,a1=some p->p.block<B0) (h2:Rd w a2 n2 o2) (hn2:n2<=5000000) (hc2:n2<=c2) (f2:0<n2->∀ p,a2=some p->p.block<B0) (hk:okF s1 n1 o1 s2 n2 o2) :
  Calls Tryz.prog 102 #[fracV s1 a1 n1 c1 s2 a2 n2 c2] w (FracS w B0 (valN s1 n1 o1) (valN s2 n2 o2)):=by
 have CK:=qh (fun (w':World) (hb:Below w.heap.size w w')=>fcheck_any s1 a1 n1 c1 o1 s2 a2 n2 c2 o2 w' (h1.below hb) hn1 hc1 (h2.below hb) hn2 hc2);rw[decide_eq_true hk] at CK;obtain⟨t1,t2,t3⟩:=of_facts s1 n1 o1 hk.1 h1.rng;obtain⟨u1,u2,u3⟩:=of_facts s2 n2 o2 hk.2.1 h2.rng
 generalize valN s1 n1 o1=z1 at t1 t2 t3 ⊢
 generalize valN s2 n2 o2=z2 at u1 u2 u3 ⊢
 have HR:=qh (And.intro (And.intro h1 f1) (And.intro h2 f2));have HT:=qh (And.intro (And.intro t1 (And.intro t2 t3)) (And.intro u1 (And.intro u2 u3)));clear hk h1 h2 f1 f2 t1 t2 t3 u1 u2 u3;have HB:=qh ((Bxs.new w 32 [.bool s1,.slice a1 n1 c1,.bool s2,.slice a2 n2 c2]).alloc (.cells #[.bool false,.slice none 0 0,.bool false,.slice none 0 0] 32));have HBR:=qh (Bxs.new (w.alloc (.cells #[.bool s1,.slice a1 n1 c1,.bool s2,.slice a2 n2 c2] 32)) 32 [.bool false,.slice none 0 0,.bool false,.slice none 0 0]);obtain⟨W,hW⟩:∃ W,W=(w.alloc (.cells #[.bool s1,.slice a1 n1 c1,.bool s2,.slice a2 n2 c2] 32)).alloc (.cells #[.bool false,.slice none 0 0,.bool false,.slice none 0 0] 32):=⟨_,rfl⟩;have HBW:=qh (show Below w.heap.size w W by rw[hW];exact(zk.alloc zj _).alloc (by simp) _);rw[show(w.alloc (.cells (List.toArray [.bool s1,.slice a1 n1 c1,.bool s2,.slice a2 n2 c2]) 32)).alloc (.cells #[.bool false,.slice none 0 0,.bool false,.slice none 0 0] 32)=W from hW.symm] at HB;rw[show(w.alloc (.cells #[.bool s1,.slice a1 n1 c1,.bool s2,.slice a2 n2 c2] 32)).alloc (.cells (List.toArray [.bool false,.slice none 0 0,.bool false,.slice none 0 0]) 32)=W from hW.symm,World.size_alloc] at HBR;have HW:=qh hW;clear hW;go_enter Tryz.func102,Tryz.ntmps102
 go_upto_region 1 with (fail)
 rw[show(w.alloc (.cells #[.bool s1,.slice a1 n1 c1,.bool s2,.slice a2 n2 c2] 32)).alloc (.cells #[.bool false,.slice none 0 0,.bool false,.slice none 0 0] 32)=W from HW.o.symm];obtain⟨x0,x1,x2,x3,x4,x5⟩:=frac_box HB.o;go_wp2_with fail
 refine(CK.o _ HBW.o).mono ?_;rintro e w1 ⟨rfl,hb1⟩;have GB:=qh hb1;have HB1:=qh (HB.o.bl hb1);have HR1:=qh (HBR.o.bl hb1);clear hb1 CK x0 x1 x2 x3 x4 x5;obtain⟨x0,x1,x2,x3,x4,x5⟩:=frac_box HB1.o;obtain⟨y0,y1,y2,y3,y4,y5⟩:=frac_box HR1.o;go_wp2_with fail
 have hlt:=HB.o.lt;have hlt2:=HBR.o.lt;have hG:=HBW.o.trans (GB.o.mono HBW.o.size);refine bodyPost_ret (results_cell rfl _ _ _ _ _ _ _ rfl ((((HR1.o.put 0 _).put 1 _).put 2 _).put 3 _) Tryz.underlying32 rfl (by kernel_rfl)) rfl ⟨a1,c1,a2,c2,?_,?_,?_,?_,?_,?_⟩
 ·rw[HT.o.1.1,HT.o.1.2.1,HT.o.2.1,HT.o.2.2.1];rfl
 ·rw[HT.o.1.2.1];have r:RdS w1 B0 (w.heap.size+2) a1 n1 (dgi z1.natAbs):=⟨(HR.o.1.1.congr HT.o.1.2.2).below hG,fun h0 p hp=>Or.inl (HR.o.1.2 h0 p hp)⟩;exact((((r.sz).sz).sz).sz).up (by omega)
 ·rw[HT.o.1.2.1];exact hc1
 ·rw[HT.o.2.2.1];have r:RdS w1 B0 (w.heap.size+2) a2 n2 (dgi z2.natAbs):=⟨(HR.o.2.1.congr HT.o.2.2.2).below hG,fun h0 p hp=>Or.inl (HR.o.2.2 h0 p hp)⟩;exact((((r.sz).sz).sz).sz).up (by omega)
 ·rw[HT.o.2.2.1];exact hc2
 ·exact(((hG.sc).sc).sc).sc
open Classical in
theorem fof2_not (s1:Bool) (a1:Option Addr) (n1 c1:Nat) (o1:Nat->Int) (s2:Bool) (a2:Option Addr) (n2 c2:Nat) (o2:Nat->Int) (w:World) (B0:Nat)
  (h1:Rd w a1 n1 o1) (hn1:n1<=5000000) (hc1:n1<=c1) (h2:Rd w a2 n2 o2) (hn2:n2<=5000000) (hc2:n2<=c2) (hk:¬okF s1 n1 o1 s2 n2 o2) :
  Calls Tryz.prog 102 #[fracV s1 a1 n1 c1 s2 a2 n2 c2] w (FracS w B0 0 1):=by
 have CK:=qh (fun (w':World) (hb:Below w.heap.size w w')=>fcheck_any s1 a1 n1 c1 o1 s2 a2 n2 c2 o2 w' (h1.below hb) hn1 hc1 (h2.below hb) hn2 hc2);rw[zo hk] at CK;obtain⟨one,hone⟩:∃ one:Int,one=1:=⟨_,rfl⟩;obtain⟨zer,hzer⟩:∃ zer:Int,zer=0:=⟨_,rfl⟩;have OF:=qh (fun (w':World)=>fof_any 0 w' (by omega) (by omega));rw[<- hone,<- hzer];have OF:=qh (show ∀ w',Calls Tryz.prog 35 #[.int .i64 0] w' (FracR w' zer one) from fun w'=>by rw[hone,hzer];exact OF.o w');clear hk h1 h2 hone hzer;have HB:=qh ((Bxs.new w 32 [.bool s1,.slice a1 n1 c1,.bool s2,.slice a2 n2 c2]).alloc (.cells #[.bool false,.slice none 0 0,.bool false,.slice none 0 0] 32));have HBR:=qh (Bxs.new (w.alloc (.cells #[.bool s1,.slice a1 n1 c1,.bool s2,.slice a2 n2 c2] 32)) 32 [.bool false,.slice none 0 0,.bool false,.slice none 0 0]);obtain⟨W,hW⟩:∃ W,W=(w.alloc (.cells #[.bool s1,.slice a1 n1 c1,.bool s2,.slice a2 n2 c2] 32)).alloc (.cells #[.bool false,.slice none 0 0,.bool false,.slice none 0 0] 32):=⟨_,rfl⟩;have HBW:=qh (show Below w.heap.size w W by rw[hW];exact(zk.alloc zj _).alloc (by simp) _);rw[show(w.alloc (.cells (List.toArray [.bool s1,.slice a1 n1 c1,.bool s2,.slice a2 n2 c2]) 32)).alloc (.cells #[.bool false,.slice none 0 0,.bool false,.slice none 0 0] 32)=W from hW.symm] at HB;rw[show(w.alloc (.cells #[.bool s1,.slice a1 n1 c1,.bool s2,.slice a2 n2 c2] 32)).alloc (.cells (List.toArray [.bool false,.slice none 0 0,.bool false,.slice none 0 0]) 32)=W from hW.symm,World.size_alloc] at HBR
 have HW:=qh hW;clear hW;go_enter Tryz.func102,Tryz.ntmps102
 go_upto_region 1 with (fail)
 rw[show(w.alloc (.cells #[.bool s1,.slice a1 n1 c1,.bool s2,.slice a2 n2 c2] 32)).alloc (.cells #[.bool false,.slice none 0 0,.bool false,.slice none 0 0] 32)=W from HW.o.symm];obtain⟨x0,x1,x2,x3,x4,x5⟩:=frac_box HB.o;go_wp2_with fail
 refine(CK.o _ HBW.o).mono ?_;rintro e w1 ⟨rfl,hb1⟩;have GB:=qh hb1;clear hb1 CK x0 x1 x2 x3 x4 x5;go_wp2_with fail
 refine(OF.o w1).mono ?_;rintro e w2 ⟨t1,t2,rfl,ho1,ho2,-,hb2⟩;have HO:=qh (And.intro ho1 ho2);have hs1:=GB.o.size;have GB:=qk GB hb2;have HR1:=qh (HBR.o.below GB.o HBR.o.lt);have HS1:=qh hs1;clear ho1 ho2 hb2 hs1;obtain⟨y0,y1,y2,y3,y4,y5⟩:=frac_box HR1.o;go_wp2_with fail
 have hlt:=HB.o.lt;have hlt2:=HBR.o.lt;have hs1:=HS1.o;have hG:=HBW.o.trans (GB.o.mono HBW.o.size);refine bodyPost_ret (results_cell rfl _ _ _ _ _ _ _ rfl ((((HR1.o.put 0 _).put 1 _).put 2 _).put 3 _) Tryz.underlying32 rfl (by kernel_rfl)) rfl ⟨t1,_,t2,_,rfl,?_,zj,?_,zj,?_⟩
 ·exact(((((HO.o.1.oz).oz).oz).oz).rdS B0 w.heap.size (by omega))
 ·exact(((((HO.o.2.oz).oz).oz).oz).rdS B0 w.heap.size (by omega))
 ·exact(((hG.sc).sc).sc).sc
theorem fof2_any (s1:Bool) (a1:Option Addr) (n1 c1:Nat) (o1:Nat->Int) (s2:Bool) (a2:Option Addr) (n2 c2:Nat) (o2:Nat->Int) (w:World) (B0:Nat) (hB0:B0<=w.heap.size)
  (h1:Rd w a1 n1 o1) (hn1:n1<=5000000) (hc1:n1<=c1) (f1:0<n1->∀ p,a1=some p->p.block<B0) (h2:Rd w a2 n2 o2) (hn2:n2<=5000000) (hc2:n2<=c2) (f2:0<n2->∀ p,a2=some p->p.block<B0) :
  Calls Tryz.prog 102 #[fracV s1 a1 n1 c1 s2 a2 n2 c2] w (FracS w B0 (valF s1 n1 o1 s2 n2 o2).num ((valF s1 n1 o1 s2 n2 o2).den:Int)):=by
 by_cases hk:okF s1 n1 o1 s2 n2 o2
 ·obtain⟨e1,e2⟩:=valF_ok hk;rw[e1,e2];exact fof2_ok s1 a1 n1 c1 o1 s2 a2 n2 c2 o2 w B0 hB0 h1 hn1 hc1 f1 h2 hn2 hc2 f2 hk
 ·rw[valF_not hk];exact fof2_not s1 a1 n1 c1 o1 s2 a2 n2 c2 o2 w B0 h1 hn1 hc1 h2 hn2 hc2 hk
theorem lowest_any (z1 z2:Int) (a1 a2:Option Addr) (c1 c2:Nat) (w:World) (h1:Rd w a1 (lenB z1.natAbs) (dgi z1.natAbs)) (hn1:lenB z1.natAbs<=4000000) (hc1:lenB z1.natAbs<=c1) (h2:Rd w a2 (lenB z2.natAbs) (dgi z2.natAbs)) (hn2:lenB z2.natAbs<=4000000) (hc2:lenB z2.natAbs<=c2) (hz:z2≠0) :
  Calls Tryz.prog 164 #[numV (decide (z1<0)) a1 (lenB z1.natAbs) c1,numV (decide (z2<0)) a2 (lenB z2.natAbs) c2] w (FracR w (Rat.divInt z1 z2).num ((Rat.divInt z1 z2).den:Int)):=by
 obtain⟨G,hG⟩:∃ G:Int,G=((Int.gcd z1 z2:Nat):Int):=⟨_,rfl⟩;have HR:=qh (And.intro h1 h2);have HLL:=qh (And.intro hn1 hn2)
 obtain⟨g,hg⟩:∃ g:Int,g=if z2<0 then -G else G:=⟨_,rfl⟩
 have HRES:=qh (And.intro (low_num z1 z2 hz) (low_den z1 z2 hz));have HG0:=qh (low_gcd z1 z2 hz);rw[<- hG,<- hg] at HRES HG0
 have hGL:lenB G.natAbs<=8000000:=by rw[hG,Int.natAbs_natCast];have:=gcd_len z1 z2;omega
 have HGL:=qh (show lenB g.natAbs<=8000000 by rw[hg];split;rw[Int.natAbs_neg];exact hGL;exact hGL);have GC:=qh (fun (w':World) (hb:Below w.heap.size w w')=>gcd_any (decide (z1<0)) a1 (lenB z1.natAbs) c1 (dgi z1.natAbs) (decide (z2<0)) a2 (lenB z2.natAbs) c2 (dgi z2.natAbs) w' (h1.below hb) (by omega) hc1 (h2.below hb) (by omega) hc2);rw[canon_val,canon_val,<- hG] at GC;have SG:=qh (fun (w':World) (hb:Below w.heap.size w w')=>sign_any (decide (z2<0)) a2 (lenB z2.natAbs) c2 (dgi z2.natAbs) w' (h2.below hb) (by omega) hc2);rw[canon_val] at SG;obtain⟨cs,hcs⟩:∃ cs,cs=cmpZ z2 0:=⟨_,rfl⟩;rw[<- hcs] at SG;have HGE:=qh hG;have HGG:=qh hGL;have KB1:=qh (((Bx.new w 30 (.bool (decide (z1<0))) (.slice a1 (lenB z1.natAbs) c1)).alloc (.cells #[.bool (decide (z2<0)),.slice a2 (lenB z2.natAbs) c2] 30)).alloc (.cells #[.bool false,.slice none 0 0,.bool false,.slice none 0 0] 32));have KB2:=qh ((Bx.new2 w (.cells #[.bool (decide (z1<0)),.slice a1 (lenB z1.natAbs) c1] 30) 30 (.bool (decide (z2<0))) (.slice a2 (lenB z2.natAbs) c2)).alloc (.cells #[.bool false,.slice none 0 0,.bool false,.slice none 0 0] 32));have KB4:=qh (Bxs.new ((w.alloc (.cells #[.bool (decide (z1<0)),.slice a1 (lenB z1.natAbs) c1] 30)).alloc (.cells #[.bool (decide (z2<0)),.slice a2 (lenB z2.natAbs) c2] 30)) 32 [.bool false,.slice none 0 0,.bool false,.slice none 0 0]);obtain⟨W,hW⟩:∃ W,W=(((w.alloc (.cells #[.bool (decide (z1<0)),.slice a1 (lenB z1.natAbs) c1] 30)).alloc (.cells #[.bool (decide (z2<0)),.slice a2 (lenB z2.natAbs) c2] 30)).alloc (.cells #[.bool false,.slice none 0 0,.bool false,.slice none 0 0] 32)):=⟨_,rfl⟩
 have KG:=qh (show Below w.heap.size w W by rw[hW];exact((zk.alloc zj _).alloc (by go_size) _).alloc (by go_size) _)
 have hWs:w.heap.size+3=W.heap.size:=by rw[hW];simp
 rw[<- hW] at KB1 KB2;rw[show(((w.alloc (.cells #[.bool (decide (z1<0)),.slice a1 (lenB z1.natAbs) c1] 30)).alloc (.cells #[.bool (decide (z2<0)),.slice a2 (lenB z2.natAbs) c2] 30)).alloc (.cells (List.toArray [.bool false,.slice none 0 0,.bool false,.slice none 0 0]) 32))=W from hW.symm,World.size_alloc,World.size_alloc] at KB4;have HW:=qh hW;have HWS:=qh hWs;clear h1 h2 hn1 hn2 hz hG hGL hW hWs;go_enter Tryz.func164,Tryz.ntmps164
 go_upto_region 1 with (fail)
 rw[show(((w.alloc (.cells #[.bool (decide (z1<0)),.slice a1 (lenB z1.natAbs) c1] 30)).alloc (.cells #[.bool (decide (z2<0)),.slice a2 (lenB z2.natAbs) c2] 30)).alloc (.cells #[.bool false,.slice none 0 0,.bool false,.slice none 0 0] 32))=W from HW.o.symm];clear HW;obtain⟨x0,x1,x2,x3⟩:=KB1.o.all;obtain⟨y0,y1,y2,y3⟩:=KB2.o.all;go_wp2_with fail
 refine(GC.o _ KG.o).mono ?_;rintro e w1 ⟨aG,rfl,hO,-,hb⟩
 go_upto_region 2 with (fail)
 obtain⟨V,hV⟩:∃ V,V=w1.alloc (.cells #[.bool (decide (G<0)),.slice aG (lenB G.natAbs) (lenB G.natAbs)] 30):=⟨_,rfl⟩
 have hbV:Below W.heap.size W V:=by rw[hV];exact hb.alloc hb.size _
 have KB5:=qh (show Bx V w1.heap.size 30 (.bool (decide (G<0))) (.slice aG (lenB G.natAbs) (lenB G.natAbs)) by rw[hV];exact Bx.new w1 _ _ _);have KO:=qh (show Own 128 V (w.heap.size+3) aG (lenB G.natAbs) (lenB G.natAbs) (dgi G.natAbs) by rw[hV,HWS.o];exact hO.allocd _);rw[show w1.alloc (.cells #[.bool (decide (G<0)),.slice aG (lenB G.natAbs) (lenB G.natAbs)] 30)=V from hV.symm];obtain⟨b5,hb5⟩:∃ b5,b5=w1.heap.size:=⟨_,rfl⟩;have HLT:=qh (show w.heap.size+2<b5 by have:=hb.size;have:=HWS.o;omega);have HVS:=qh (show w.heap.size+3<=V.heap.size by rw[HWS.o];exact hbV.size);have KX:=qh (show ∀ p,aG=some p->p.block<b5 from fun p hp=>by rw[hb5];exact(hO.blk hp).2.2);rw[<- hb5] at KB5 ⊢;have KB1:=qh (KB1.o.bl hbV);have KB2:=qh (KB2.o.bl hbV);have KB4:=qh (KB4.o.bl hbV);have KG:=qk KG hbV;clear hO hb hV hbV hb5 x0 x1 x2 x3 y0 y1 y2 y3 GC;obtain⟨x0,x1,x2,x3⟩:=KB1.o.all;obtain⟨y0,y1,y2,y3⟩:=KB2.o.all;obtain⟨u0,u1,u2,u3,u4,u5⟩:=frac_box KB4.o;obtain⟨g0,g1,g2,g3⟩:=KB5.o.all;go_wp2_with fail
 refine(SG.o _ KG.o).mono ?_;rintro e v ⟨rfl,hb⟩;clear x0 x1 x2 x3 y0 y1 y2 y3 u0 u1 u2 u3 u4 u5 g0 g1 g2 g3;have KB1:=qh (KB1.o.bl hb);have KB2:=qh (KB2.o.bl hb);have KB4:=qh (KB4.o.bl hb);have KB5:=qh (KB5.o.bl hb);have KG:=qh (KG.o.trans (Below.mono hb KG.o.size));have KO:=qh (KO.o.below hb);have HVS:=qh (zm HVS.o hb.size);clear hb SG;by_cases hneg:z2<0
 ·have hc:cs<0:=by rw[hcs,cmpZ_lt hneg];omega
  have hgG:g = -G:=by rw[hg,if_pos hneg]
  clear hg hcs hneg;have NG:=qh (neg_any (decide (G<0)) aG (lenB G.natAbs) (lenB G.natAbs) (dgi G.natAbs) v KO.o.rd (by have:=HGG.o;omega) zj);rw[canon_val,<- hgG] at NG;clear hgG;obtain⟨x0,x1,x2,x3⟩:=KB1.o.all;obtain⟨y0,y1,y2,y3⟩:=KB2.o.all;obtain⟨u0,u1,u2,u3,u4,u5⟩:=frac_box KB4.o;obtain⟨g0,g1,g2,g3⟩:=KB5.o.all;go_wp2_with fail
  refine NG.o.mono ?_;rintro e w3 ⟨ag,rfl,hO,-,hb⟩;have hb5v:=KB5.o.lt;clear x0 x1 x2 x3 y0 y1 y2 y3 u0 u1 u2 u3 u4 u5 g0 g1 g2 g3;have KB1:=qh (KB1.o.bl hb);have KB2:=qh (KB2.o.bl hb);have KB4:=qh (KB4.o.bl hb);have KB5:=qh (KB5.o.bl hb);have KG:=qh (KG.o.trans (Below.mono hb KG.o.size));have KO:=qh (hO.mono (show b5+1<=v.heap.size from hb5v));have HVS:=qh (zm HVS.o hb.size);clear hO hb NG hb5v;obtain⟨cg,hcg⟩:∃ cg,cg=lenB g.natAbs:=⟨_,rfl⟩;have HB5O:=qh (show b5<w3.heap.size from KB5.o.lt);obtain⟨x0,x1,x2,x3⟩:=KB1.o.all;obtain⟨y0,y1,y2,y3⟩:=KB2.o.all;obtain⟨u0,u1,u2,u3,u4,u5⟩:=frac_box KB4.o;obtain⟨g0,g1,g2,g3⟩:=KB5.o.all
  go_upto_region 4 with (fail)
  obtain⟨v,hv⟩:∃ v,v=(w3.setCell ⟨b5,0,none⟩ (.bool (decide (g<0)))).setCell ⟨b5,1,none⟩ (.slice ag (lenB g.natAbs) (lenB g.natAbs)):=⟨_,rfl⟩;have hlt:=HLT.o;have KB1:=qh (show Bx v w.heap.size 30 (.bool (decide (z1<0))) (.slice a1 (lenB z1.natAbs) c1) by rw[hv];exact(KB1.o.oz).oz);have KB2:=qh (show Bx v (w.heap.size+1) 30 (.bool (decide (z2<0))) (.slice a2 (lenB z2.natAbs) c2) by rw[hv];exact(KB2.o.oz).oz);have KB4:=qh (show Bxs v (w.heap.size+1+1) 32 [.bool false,.slice none 0 0,.bool false,.slice none 0 0] by rw[hv];exact(KB4.o.oz).oz);have KB5:=qh (show Bx v b5 30 (.bool (decide (g<0))) (.slice ag (lenB g.natAbs) cg) by rw[hv,hcg];exact KB5.o.set _ _);have KO:=qh (show Own 128 v (w.heap.size+3) ag (lenB g.natAbs) cg (dgi g.natAbs) by rw[hv,hcg];exact((KO.o.oz).oz).mono (by omega));have KG:=qh (show Below w.heap.size w v by rw[hv];exact(KG.o.sc).sc);have HVS:=qh (show w.heap.size+3<=v.heap.size by rw[hv];simp only[World.size_setCell];exact HVS.o);rw[show(w3.setCell ⟨b5,0,none⟩ (.bool (decide (g<0)))).setCell ⟨b5,1,none⟩ (.slice ag (lenB g.natAbs) (lenB g.natAbs))=v from hv.symm];clear hv hlt hcg;clear x0 x1 x2 x3 y0 y1 y2 y3 u0 u1 u2 u3 u4 u5 g0 g1 g2 g3;obtain⟨x0,x1,x2,x3⟩:=KB1.o.all;obtain⟨y0,y1,y2,y3⟩:=KB2.o.all
  obtain⟨u0,u1,u2,u3,u4,u5⟩:=frac_box KB4.o;obtain⟨g0,g1,g2,g3⟩:=KB5.o.all;have DV:=qh (div_ok z1 g a1 ag c1 cg v (HR.o.1.below KG.o) (by have:=HLL.o;omega) hc1 KO.o.rd (by have:=HGL.o;omega) KO.o.le HG0.o);go_wp2_with fail
  with_reducible refine DV.o.mono ?_
  rintro e w4 ⟨aq,ar,rfl,hq,-,-,-,-,hb⟩;clear x0 x1 x2 x3 y0 y1 y2 y3 u0 u1 u2 u3 u4 u5 g0 g1 g2 g3;have KB1:=qh (KB1.o.bl hb);have KB2:=qh (KB2.o.bl hb);have KB4:=qh (KB4.o.bl hb);have KB5:=qh (KB5.o.bl hb);have KG:=qh (KG.o.trans (Below.mono hb KG.o.size));have KO:=qh (KO.o.below hb);have HQ:=qh (hq.mono HVS.o);have HVS:=qh (zm HVS.o hb.size);clear hq hb DV;obtain⟨Q,hQ⟩:∃ Q,Q=z1/g:=⟨_,rfl⟩;rw[<- hQ] at HQ ⊢;have HQE:=qh hQ;clear hQ;obtain⟨x0,x1,x2,x3⟩:=KB1.o.all;obtain⟨y0,y1,y2,y3⟩:=KB2.o.all;obtain⟨u0,u1,u2,u3,u4,u5⟩:=frac_box KB4.o;obtain⟨g0,g1,g2,g3⟩:=KB5.o.all;obtain⟨R,hR⟩:∃ R,R=z1%g:=⟨_,rfl⟩;rw[<- hR];clear hR
  go_upto_region 5 with (fail)
  obtain⟨V,hV⟩:∃ V,V=(w4.setCell ⟨w.heap.size+1+1,0,none⟩ (.bool (decide (Q<0)))).setCell ⟨w.heap.size+1+1,1,none⟩ (.slice aq (lenB Q.natAbs) (lenB Q.natAbs)):=⟨_,rfl⟩;have hlt:=HLT.o;have KB1:=qh (show Bx V w.heap.size 30 (.bool (decide (z1<0))) (.slice a1 (lenB z1.natAbs) c1) by rw[hV];exact(KB1.o.oz).oz);have KB2:=qh (show Bx V (w.heap.size+1) 30 (.bool (decide (z2<0))) (.slice a2 (lenB z2.natAbs) c2) by rw[hV];exact(KB2.o.oz).oz);have KB4:=qh (show Bxs V (w.heap.size+1+1) 32 [.bool (decide (Q<0)),.slice aq (lenB Q.natAbs) (lenB Q.natAbs),.bool false,.slice none 0 0] by rw[hV];exact(KB4.o.put 0 _).put 1 _);have KB5:=qh (show Bx V b5 30 (.bool (decide (g<0))) (.slice ag (lenB g.natAbs) cg) by rw[hV];exact(KB5.o.oz).oz);have KO:=qh (show Own 128 V (w.heap.size+3) ag (lenB g.natAbs) cg (dgi g.natAbs) by rw[hV];exact(KO.o.oz).oz);have HQ:=qh (show Own 128 V (w.heap.size+3) aq (lenB Q.natAbs) (lenB Q.natAbs) (dgi Q.natAbs) by rw[hV];exact(HQ.o.oz).oz);have KG:=qh (show Below w.heap.size w V by rw[hV];exact(KG.o.sc).sc);have HVS:=qh (show w.heap.size+3<=V.heap.size by rw[hV];simp only[World.size_setCell];exact HVS.o);rw[show(w4.setCell ⟨w.heap.size+1+1,0,none⟩ (.bool (decide (Q<0)))).setCell ⟨w.heap.size+1+1,1,none⟩ (.slice aq (lenB Q.natAbs) (lenB Q.natAbs))=V from hV.symm]
  clear hV hlt;clear x0 x1 x2 x3 y0 y1 y2 y3 u0 u1 u2 u3 u4 u5 g0 g1 g2 g3;obtain⟨x0,x1,x2,x3⟩:=KB1.o.all;obtain⟨y0,y1,y2,y3⟩:=KB2.o.all;obtain⟨u0,u1,u2,u3,u4,u5⟩:=frac_box KB4.o;obtain⟨g0,g1,g2,g3⟩:=KB5.o.all;have DV:=qh (div_ok z2 g a2 ag c2 cg V (HR.o.2.below KG.o) (by have:=HLL.o;omega) hc2 KO.o.rd (by have:=HGL.o;omega) KO.o.le HG0.o);go_wp2_with fail
  with_reducible refine DV.o.mono ?_
  rintro e w5 ⟨ap,ar2,rfl,hp,-,-,-,-,hb⟩;clear x0 x1 x2 x3 y0 y1 y2 y3 u0 u1 u2 u3 u4 u5 g0 g1 g2 g3;have KB1:=qh (KB1.o.bl hb);have KB2:=qh (KB2.o.bl hb);have KB4:=qh (KB4.o.bl hb);have KB5:=qh (KB5.o.bl hb);have KG:=qh (KG.o.trans (Below.mono hb KG.o.size))
  have HAP:=qh (show Apart2 aq ap from fun p q h1 h2 e=>by
   have h3:=(HQ.o.blk h1).2.2;have h4:=(hp.blk h2).2.1
   omega)
  have HQ:=qh (HQ.o.below hb);have HP:=qh (hp.mono HVS.o);clear hp hb DV;obtain⟨P,hP⟩:∃ P,P=z2/g:=⟨_,rfl⟩;rw[<- hP] at HP ⊢;have HPE:=qh hP;clear hP;obtain⟨R2,hR2⟩:∃ R2,R2=z2%g:=⟨_,rfl⟩;rw[<- hR2];clear hR2;obtain⟨x0,x1,x2,x3⟩:=KB1.o.all;obtain⟨y0,y1,y2,y3⟩:=KB2.o.all;obtain⟨u0,u1,u2,u3,u4,u5⟩:=frac_box KB4.o;obtain⟨g0,g1,g2,g3⟩:=KB5.o.all;go_wp2_with fail
  have hlt:=HLT.o;refine bodyPost_ret (results_cell rfl _ _ _ _ _ _ _ rfl ((((((KB4.o.put 2 _).put 3 _).put 0 _).put 1 _).put 2 _).put 3 _) Tryz.underlying32 rfl (by kernel_rfl)) rfl ?_;unfold FracR;rw[<- HRES.o.1,<- HRES.o.2,<- HQE.o,<- HPE.o];refine⟨aq,ap,rfl,?_,?_,HAP.o,?_⟩
  ·exact((((((HQ.o.oz).oz).oz).oz).oz).oz).mono (by omega)
  ·exact((((((HP.o.oz).oz).oz).oz).oz).oz).mono (by omega)
  ·exact(((((KG.o.sc).sc).sc).sc).sc).sc
 ·have hc:¬cs<0:=by rw[hcs];unfold cmpZ;rw[if_neg hneg];split <;> omega
  have hgG:g=G:=by rw[hg,if_neg hneg]
  subst hgG;clear hg hcs hneg;obtain⟨ag,rfl⟩:∃ ag,ag=aG:=⟨_,rfl⟩;obtain⟨cg,hcg⟩:∃ cg,cg=lenB g.natAbs:=⟨_,rfl⟩;have KB5:=qh (show Bx v b5 30 (.bool (decide (g<0))) (.slice ag (lenB g.natAbs) cg) by rw[hcg];exact KB5.o);have KO:=qh (show Own 128 v (w.heap.size+3) ag (lenB g.natAbs) cg (dgi g.natAbs) by rw[hcg];exact KO.o);clear hcg;obtain⟨x0,x1,x2,x3⟩:=KB1.o.all;obtain⟨y0,y1,y2,y3⟩:=KB2.o.all;obtain⟨u0,u1,u2,u3,u4,u5⟩:=frac_box KB4.o;obtain⟨g0,g1,g2,g3⟩:=KB5.o.all;have DV:=qh (div_ok z1 g a1 ag c1 cg v (HR.o.1.below KG.o) (by have:=HLL.o;omega) hc1 KO.o.rd (by have:=HGL.o;omega) KO.o.le HG0.o);go_wp2_with fail
  with_reducible refine DV.o.mono ?_
  rintro e w4 ⟨aq,ar,rfl,hq,-,-,-,-,hb⟩;clear x0 x1 x2 x3 y0 y1 y2 y3 u0 u1 u2 u3 u4 u5 g0 g1 g2 g3;have KB1:=qh (KB1.o.bl hb);have KB2:=qh (KB2.o.bl hb);have KB4:=qh (KB4.o.bl hb);have KB5:=qh (KB5.o.bl hb);have KG:=qh (KG.o.trans (Below.mono hb KG.o.size));have KO:=qh (KO.o.below hb);have HQ:=qh (hq.mono HVS.o);have HVS:=qh (zm HVS.o hb.size);clear hq hb DV;obtain⟨Q,hQ⟩:∃ Q,Q=z1/g:=⟨_,rfl⟩;rw[<- hQ] at HQ ⊢;have HQE:=qh hQ;clear hQ;obtain⟨x0,x1,x2,x3⟩:=KB1.o.all;obtain⟨y0,y1,y2,y3⟩:=KB2.o.all;obtain⟨u0,u1,u2,u3,u4,u5⟩:=frac_box KB4.o;obtain⟨g0,g1,g2,g3⟩:=KB5.o.all;obtain⟨R,hR⟩:∃ R,R=z1%g:=⟨_,rfl⟩;rw[<- hR];clear hR
  go_upto_region 5 with (fail)
  obtain⟨V,hV⟩:∃ V,V=(w4.setCell ⟨w.heap.size+1+1,0,none⟩ (.bool (decide (Q<0)))).setCell ⟨w.heap.size+1+1,1,none⟩ (.slice aq (lenB Q.natAbs) (lenB Q.natAbs)):=⟨_,rfl⟩;have hlt:=HLT.o;have KB1:=qh (show Bx V w.heap.size 30 (.bool (decide (z1<0))) (.slice a1 (lenB z1.natAbs) c1) by rw[hV];exact(KB1.o.oz).oz);have KB2:=qh (show Bx V (w.heap.size+1) 30 (.bool (decide (z2<0))) (.slice a2 (lenB z2.natAbs) c2) by rw[hV];exact(KB2.o.oz).oz);have KB4:=qh (show Bxs V (w.heap.size+1+1) 32 [.bool (decide (Q<0)),.slice aq (lenB Q.natAbs) (lenB Q.natAbs),.bool false,.slice none 0 0] by rw[hV];exact(KB4.o.put 0 _).put 1 _);have KB5:=qh (show Bx V b5 30 (.bool (decide (g<0))) (.slice ag (lenB g.natAbs) cg) by rw[hV];exact(KB5.o.oz).oz);have KO:=qh (show Own 128 V (w.heap.size+3) ag (lenB g.natAbs) cg (dgi g.natAbs) by rw[hV];exact(KO.o.oz).oz);have HQ:=qh (show Own 128 V (w.heap.size+3) aq (lenB Q.natAbs) (lenB Q.natAbs) (dgi Q.natAbs) by rw[hV];exact(HQ.o.oz).oz);have KG:=qh (show Below w.heap.size w V by rw[hV];exact(KG.o.sc).sc);have HVS:=qh (show w.heap.size+3<=V.heap.size by rw[hV];simp only[World.size_setCell];exact HVS.o);rw[show(w4.setCell ⟨w.heap.size+1+1,0,none⟩ (.bool (decide (Q<0)))).setCell ⟨w.heap.size+1+1,1,none⟩ (.slice aq (lenB Q.natAbs) (lenB Q.natAbs))=V from hV.symm]
  clear hV hlt;clear x0 x1 x2 x3 y0 y1 y2 y3 u0 u1 u2 u3 u4 u5 g0 g1 g2 g3;obtain⟨x0,x1,x2,x3⟩:=KB1.o.all;obtain⟨y0,y1,y2,y3⟩:=KB2.o.all;obtain⟨u0,u1,u2,u3,u4,u5⟩:=frac_box KB4.o;obtain⟨g0,g1,g2,g3⟩:=KB5.o.all;have DV:=qh (div_ok z2 g a2 ag c2 cg V (HR.o.2.below KG.o) (by have:=HLL.o;omega) hc2 KO.o.rd (by have:=HGL.o;omega) KO.o.le HG0.o);go_wp2_with fail
  with_reducible refine DV.o.mono ?_
  rintro e w5 ⟨ap,ar2,rfl,hp,-,-,-,-,hb⟩;clear x0 x1 x2 x3 y0 y1 y2 y3 u0 u1 u2 u3 u4 u5 g0 g1 g2 g3;have KB1:=qh (KB1.o.bl hb);have KB2:=qh (KB2.o.bl hb);have KB4:=qh (KB4.o.bl hb);have KB5:=qh (KB5.o.bl hb);have KG:=qh (KG.o.trans (Below.mono hb KG.o.size))
  have HAP:=qh (show Apart2 aq ap from fun p q h1 h2 e=>by
   have h3:=(HQ.o.blk h1).2.2;have h4:=(hp.blk h2).2.1
   omega)
  have HQ:=qh (HQ.o.below hb);have HP:=qh (hp.mono HVS.o);clear hp hb DV;obtain⟨P,hP⟩:∃ P,P=z2/g:=⟨_,rfl⟩;rw[<- hP] at HP ⊢;have HPE:=qh hP;clear hP;obtain⟨R2,hR2⟩:∃ R2,R2=z2%g:=⟨_,rfl⟩;rw[<- hR2];clear hR2;obtain⟨x0,x1,x2,x3⟩:=KB1.o.all;obtain⟨y0,y1,y2,y3⟩:=KB2.o.all;obtain⟨u0,u1,u2,u3,u4,u5⟩:=frac_box KB4.o;obtain⟨g0,g1,g2,g3⟩:=KB5.o.all;go_wp2_with fail
  have hlt:=HLT.o;refine bodyPost_ret (results_cell rfl _ _ _ _ _ _ _ rfl ((((((KB4.o.put 2 _).put 3 _).put 0 _).put 1 _).put 2 _).put 3 _) Tryz.underlying32 rfl (by kernel_rfl)) rfl ?_;unfold FracR;rw[<- HRES.o.1,<- HRES.o.2,<- HQE.o,<- HPE.o];refine⟨aq,ap,rfl,?_,?_,HAP.o,?_⟩
  ·exact((((((HQ.o.oz).oz).oz).oz).oz).oz).mono (by omega)
  ·exact((((((HP.o.oz).oz).oz).oz).oz).oz).mono (by omega)
  ·exact(((((KG.o.sc).sc).sc).sc).sc).sc
theorem results_ct {P:Program} {fn:Func} {p t:Tmp} {ty:TypeId} (h:fn.results=#[.cell p ty,.tmp t]) (tmps:Array Value) (w:World) (g:Nat) (ta:TypeId) (cs:Array Value) (fr:Nat × Nat) (d:TypeDesc)
  (hp:tmps.getD p undef=.pointer (some ⟨g,0,none⟩)) (hg:w.heap[g]?=some (.cells cs ta fr))
  (hu:P.underlying ty=some d) (hd:(match d with | .struct _ | .array _ _=>true | _=>false)=true) (hi:(P.info? ty).map (·.size)=some cs.size) :
  (results fn tmps).run P w=.ok (.tuple #[.agg cs,tmps.getD t undef]) w:=by
 have hp':tmps[p]?.getD undef=.pointer (some ⟨g,0,none⟩):=by simpa using hp
 simp[results,h,hp',asAddr,run_loadVar_row w g ta ty cs fr d hg hu hd hi]
structure FracI (w:World) (lo hi:Nat) (p q:Int) (x:Option Addr × Nat × Option Addr × Nat):Prop where
 r1:RdS w lo hi x.1 (lenB p.natAbs) (dgi p.natAbs)
 c1:lenB p.natAbs<=x.2.1
 r2:RdS w lo hi x.2.2.1 (lenB q.natAbs) (dgi q.natAbs)
 c2:lenB q.natAbs<=x.2.2.2
theorem FracI.below {w w':World} {lo hi:Nat} {p q:Int} {x:Option Addr × Nat × Option Addr × Nat} (h:FracI w lo hi p q x) (hb:Below w.heap.size w w'):FracI w' lo hi p q x:=⟨h.r1.below hb,h.c1,h.r2.below hb,h.c2⟩
theorem FracI.set {w:World} {lo hi:Nat} {p q:Int} {x:Option Addr × Nat × Option Addr × Nat} (h:FracI w lo hi p q x) {a:Addr} (h1:lo<=a.block) (h2:a.block<hi) (v:Value):FracI (w.setCell a v) lo hi p q x:=⟨h.r1.set h1 h2 v,h.c1,h.r2.set h1 h2 v,h.c2⟩
theorem FracI.sz {w:World} {lo hi:Nat} {p q:Int} {x:Option Addr × Nat × Option Addr × Nat} (h:FracI w lo hi p q x) {a:Addr} {v:Value} (h1:lo<=a.block:=by dsimp only;omega) (h2:a.block<hi:=by dsimp only;omega):FracI (w.setCell a v) lo hi p q x:=h.set h1 h2 v
theorem FracI.up {w:World} {lo hi hi':Nat} {p q:Int} {x:Option Addr × Nat × Option Addr × Nat} (h:FracI w lo hi p q x) (hh:hi'<=hi):FracI w lo hi' p q x:=⟨h.r1.up hh,h.c1,h.r2.up hh,h.c2⟩
abbrev fracX (p q:Int) (x:Option Addr × Nat × Option Addr × Nat):Value:=fracV (decide (p<0)) x.1 (lenB p.natAbs) x.2.1 (decide (q<0)) x.2.2.1 (lenB q.natAbs) x.2.2.2
theorem fracI_of {lo hi:Nat} {p q:Int} {x:Option Addr × Nat × Option Addr × Nat} {w:World} (h:∃ y,fracX p q x=fracX p q y/\FracI w lo hi p q y):FracI w lo hi p q x:=by
 obtain⟨y,e,h⟩:=h;simp only[Value.agg.injEq,Array.mk.injEq,List.cons.injEq,Value.slice.injEq,true_and,and_true] at e;obtain⟨⟨e1,e2⟩,e3,e4⟩:=e;obtain⟨x1,x2,x3,x4⟩:=x;obtain⟨y1,y2,y3,y4⟩:=y;dsimp only at e1 e2 e3 e4;subst e1 e2 e3 e4;exact h
theorem fracS_ex {w:World} {B0:Nat} {p q:Int} {e:Ending} {w':World} (h:FracS w B0 p q e w'):∃ x,e=.returned (fracX p q x)/\FracI w' B0 w.heap.size p q x/\Below w.heap.size w w':=by
 obtain⟨a1,c1,a2,c2,rfl,r1,l1,r2,l2,hb⟩:=h;exact⟨(a1,c1,a2,c2),rfl,⟨r1,l1,r2,l2⟩,hb⟩
def Brought (w:World) (t1 t2 l:Int) (e:Ending) (w':World):Prop :=
 ∃ m1 m2 m3:Option Addr,e=.returned (.tuple #[fracV (decide (t1<0)) m1 (lenB t1.natAbs) (lenB t1.natAbs) (decide (t2<0)) m2 (lenB t2.natAbs) (lenB t2.natAbs),numV (decide (l<0)) m3 (lenB l.natAbs) (lenB l.natAbs)]) /\
  Own 128 w' w.heap.size m1 (lenB t1.natAbs) (lenB t1.natAbs) (dgi t1.natAbs)/\Own 128 w' w.heap.size m2 (lenB t2.natAbs) (lenB t2.natAbs) (dgi t2.natAbs)/\Own 128 w' w.heap.size m3 (lenB l.natAbs) (lenB l.natAbs) (dgi l.natAbs)/\Below w.heap.size w w'
theorem valF_len {s1:Bool} {n1:Nat} {o1:Nat->Int} {s2:Bool} {n2:Nat} {o2:Nat->Int} (g1:∀ i,i<n1->0<=o1 i/\o1 i<=4294967295) (g2:∀ i,i<n2->0<=o2 i/\o2 i<=4294967295) :
  lenB (valF s1 n1 o1 s2 n2 o2).num.natAbs<=n1+1/\lenB ((valF s1 n1 o1 s2 n2 o2).den:Int).natAbs<=n2+1:=by
 by_cases hk:okF s1 n1 o1 s2 n2 o2
 ·obtain⟨e1,e2⟩:=valF_ok hk;rw[e1,e2];have h1:=(of_facts s1 n1 o1 hk.1 g1).2.1;have h2:=(of_facts s2 n2 o2 hk.2.1 g2).2.1;omega
 ·rw[valF_not hk];have h1:lenB (Rat.num 0).natAbs=0:=lenB_zero;have h2:lenB (((Rat.den 0:Nat):Int)).natAbs<=1:=lenB_le (by decide);omega
end Limb
end Go.Proofs.YthacfgmdihcffaaGreatDoor
