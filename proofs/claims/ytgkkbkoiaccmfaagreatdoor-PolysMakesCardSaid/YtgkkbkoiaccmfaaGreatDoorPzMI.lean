/-
  The walk of brought of fracs: two fractions' numbers above, brought to one number below.
-/
import Derived.Test.YtgkkbkoiaccmfaaGreatDoorPzMG
import Derived.RangeFuncBox
import Derived.RangeFuncLeaves
import Derived.RangeFuncFrom
import Derived.Shelf.Abstract
import Derived.OwnWalkIn
import Derived.TacticsInMore
import Derived.LoopNIn
import Derived.LoopIn
set_option linter.unusedSimpArgs false
set_option linter.unusedVariables false
set_option maxHeartbeats 16000000
set_option maxRecDepth 100000
namespace Go.Proofs.YtgkkbkoiaccmfaaGreatDoor.Limb
open Go.RowKit Go.Sort Go.Shelf
attribute [local go_sem] Oper.semAt_some
def down (n k:Nat):List Nat:=(List.range k).map fun j=>n-1-j
theorem down_succ (n k:Nat):down n (k+1)=down n k++[n-1-k]:=by simp[down,List.range_succ]
theorem down_length (n k:Nat):(down n k).length=k:=by simp[down]
def gather (M:Nat) (l:List Nat):Int:=l.foldl (fun h x=>h*1000000000-dgi M x) 0
theorem gather_snoc (M:Nat) (l:List Nat) (x:Nat):gather M (l++[x])=gather M l*1000000000-dgi M x:=by simp[gather]
theorem gather_down (M n:Nat) (h:M<pw n):∀ k,k≤n→gather M (down n k) = -((M/pw (n-k):Nat):Int):=by
 intro k
 induction k with
 | zero=>intro _;rw[Nat.sub_zero,Nat.div_eq_of_lt h];rfl
 | succ k ih =>
  intro hk;rw[down_succ,gather_snoc,ih (by omega)];obtain⟨j,hj⟩:∃ j,n-(k+1)=j:=⟨_,rfl⟩;rw[hj,show n-k=j+1 by omega,show n-1-k=j by omega]
  have e:M/pw (j+1)=M/pw j/1000000000:=by rw[pw_succ,Nat.div_div_eq_div_mul]
  have e2:dgi M j=((M/pw j%1000000000:Nat):Int):=rfl;rw[e,e2];omega
theorem gather_all (M n:Nat) (h:M<pw n):gather M (down n n) = -(M:Int):=by
 rw[gather_down M n h n (Nat.le_refl _),Nat.sub_self,pw_zero,Nat.div_one]
def KpB (n₀ Bs:Nat) (A B:World):Prop:=Below n₀ A B∧B.heap[Bs]?=A.heap[Bs]?
theorem KpB.refl (n₀ Bs:Nat) (A:World):KpB n₀ Bs A A:=⟨Below.refl _ _,rfl⟩
theorem KpB.trans {n₀ Bs:Nat} {A B C:World} (h:KpB n₀ Bs A B) (k:KpB n₀ Bs B C):KpB n₀ Bs A C:=⟨h.1.trans k.1,k.2.trans h.2⟩
theorem KpB.back {n₀ Bs:Nat} {w:World} (hn:n₀≤w.heap.size) (hB:Bs<w.heap.size) (W:World) (l:Nat) (o o':Obj) (hl:w.heap.size≤l) (h:W.heap[l]?=some o) (h1:o.isCells=false) (h2:o.isWalk=false):KpB n₀ Bs W (W.putObj l o'):=by
 refine⟨belowK_b hn W l o o' hl h h1 h2,?_⟩;have hg:=grownBy_putObj' W l o'
 by_cases hlt:Bs<W.heap.size
 ·exact hg.block Bs hlt (fun e=>by cases e;omega)
 ·have hlw:l<W.heap.size:=(Array.getElem?_eq_some_iff.1 h).1;omega
theorem bwd_any (a:Option Addr) (n c:Nat) (w:World) :
  Calls Tryz.prog 259 #[.slice a n c] w fun e w'=>e=.returned (.func (.func 275) #[] #[.pointer (some ⟨w.heap.size,0,none⟩)])∧w'=w.alloc (.cells #[.slice a n c] 24):=by
 go_enter Tryz.func259,Tryz.ntmps259;go_wp2;go_ret;exact⟨rfl,rfl⟩
theorem bwd1_in (F:Fence) (m:Nat) (hf:F.fn 275) (hro:F.round=none) (hm:1≤m) (l Bs n₀ M n cap:Nat) (a:Option Addr) (hn:n≤1000000000) (J Jx:List Nat→World→Prop)
  (hY:∀ pre (x:Nat) W,J pre W→pre.length<n→YieldAt F (m-1) Tryz.prog l #[.int .i64 (x:Int),.int .u32 (dgi M x)] W fun e W' =>
   (e=.returned (.bool true)∧J (pre++[x]) W'∧KpB n₀ Bs W W')∨(e=.returned (.bool false)∧Jx (pre++[x]) W'))
  (W:World) (hBs:W.rowIs Bs 24 1 (fun _=>.slice a n cap)) (hR:Rd W a n (dgi M)) (hRn:∀ p,a=some p→0<n→p.block<n₀) (h0:J [] W) :
  CallsIn F m Tryz.prog 275 #[.func (.yield l) #[] #[],.pointer (some ⟨Bs,0,none⟩)] W fun e W'=>(∃ v,e=.returned v) ∧
   ((∃ ys,ys=down n n∧J ys W')∨(∃ pre,(∃ k,k≤n∧pre=down n k)∧Jx pre W')):=by
 have hbs0:W.cell? ⟨Bs,0,none⟩=some (.slice a n cap):=hBs.cell (i:=0) (by omega);refine callsIn_of_wp Tryz.func275 rfl hf ?_ hro;simp only[Tryz.ntmps275,List.size_toArray,List.length_cons,List.length_nil,Nat.reduceAdd,Nat.reduceSub,Array.replicate_succ,Array.replicate_zero,List.push_toArray,List.append_toArray,List.nil_append,List.cons_append]
 gi_wp2
 gi_loopw [3] (fun i wr=>∃ k:Nat,k≤n∧i=.int .i64 ((n:Int)-1-k)∧J (down n k) wr∧KpB n₀ Bs W wr)
  (fun i _=>(intOf i+1).toNat)
 case atStart=>exact⟨0,Nat.zero_le _,by simp,h0,KpB.refl _ _ _⟩
 case round =>
  obtain⟨k,hk,rfl,hJs,hnx⟩:=hrel;have hbs:wr.cell? ⟨Bs,0,none⟩=some (.slice a n cap):=(hBs.of_block hnx.2).cell (i:=0) (by omega)
  by_cases hlt:k<n
  ·obtain⟨b,off,rfl,hcs⟩:=hR.cells (by omega);obtain⟨j,hj⟩:∃ j,n-1-k=j:=⟨_,rfl⟩;have hcx:wr.cell? ⟨b,off+j,none⟩=some (.int .u32 (dgi M j)):=(hnx.1.cell (p:=⟨b,off+j,none⟩) (hRn ⟨b,off,none⟩ rfl (by omega))).trans (hcs j (by omega));obtain⟨fn,tmps,assign,body,hy,hR2⟩:=hY _ j wr hJs (by rw[down_length];exact hlt)
   have hdj:((n:Int)-1-(k:Int))=(j:Int):=by omega
   have hjn:(j:Int)<(n:Int):=by omega
   have hds:down n k++[j]=down n (k+1):=by rw[down_succ,hj]
   rw[hds] at hR2;rw[hdj];clear hcs hds
   gi_wp2
   refine hR2.mono ?_;rintro e W3 (⟨rfl,hJ3,hk3⟩ | ⟨rfl,hJx3⟩)
   ·gi_wp2
    go_roundw
    case rel=>exact⟨k+1,by omega,by congr 1;omega,hJ3,hnx.trans hk3⟩
    case measure=>first | (simp[intOf];omega) | (simp[intOf];done)
   ·gi_wp2
    refine bodyPost_ret (results_none rfl _ _ _) rfl ?_;exact⟨⟨_,rfl⟩,.inr ⟨_,⟨k+1,by omega,rfl⟩,hJx3⟩⟩
  ·obtain rfl:k=n:=by omega
   have hdj:((k:Int)-1-(k:Int)) = -1:=by omega
   rw[hdj]
   gi_wp2
   go_end0;exact⟨⟨_,rfl⟩,.inl ⟨_,rfl,hJs⟩⟩
theorem bwd_stops (F:Fence) (m:Nat) (hf:F.fn 275) (hro:F.round=none) (hm:1≤m) (Bs n₀ M n cap:Nat) (a:Option Addr) (hn:n≤1000000000) (w:World) (hn₀:n₀≤w.heap.size)
  (hc:w.rowIs Bs 24 1 (fun _=>.slice a n cap)) (hR:Rd w a n (dgi M)) (hRn:∀ p,a=some p→0<n→p.block<n₀) :
  SeqStopsK F m Tryz.prog 275 #[.pointer (some ⟨Bs,0,none⟩)] (fun x:Nat=>#[Value.int .i64 (x:Int),Value.int .u32 (dgi M x)]) (KpB n₀ Bs) (fun ys=>ys=down n n) (fun pre=>∃ k,k≤n∧pre=down n k) n w:=fun l J Jx W hW _ _ hY h0 =>
 bwd1_in F m hf hro hm l Bs n₀ M n cap a hn J Jx hY W (hc.of_block (hW.block _ hc.lt)) (hR.below hW) hRn h0
end Go.Proofs.YtgkkbkoiaccmfaaGreatDoor.Limb
namespace Go.Proofs.YtgkkbkoiaccmfaaGreatDoor.Limb
open Go.RowKit Go.Sort Go.Fresh Go.Shelf
attribute [local go_sem] Oper.semAt_some
theorem of_min:∃ mn:Int,mn = -9223372036854775808∧∀ w,Calls Tryz.prog 133 #[.int .i64 (-9223372036854775808)] w (ResN w mn):=⟨_,rfl,fun w=>of64_any _ w (by omega) (by omega)⟩
theorem of_max:∃ mx:Int,mx=9223372036854775807∧∀ w,Calls Tryz.prog 133 #[.int .i64 9223372036854775807] w (ResN w mx):=⟨_,rfl,fun w=>of64_any _ w (by omega) (by omega)⟩
theorem cmp_can (z y:Int) (a:Option Addr) (c:Nat) (a2:Option Addr) (c2:Nat) (w:World) (h1:Rd w a (lenB z.natAbs) (dgi z.natAbs)) (hn1:lenB z.natAbs≤100000000) (hc1:lenB z.natAbs≤c) (h2:Rd w a2 (lenB y.natAbs) (dgi y.natAbs)) (hn2:lenB y.natAbs≤100000000) (hc2:lenB y.natAbs≤c2) :
  Calls Tryz.prog 238 #[numV (decide (z<0)) a (lenB z.natAbs) c,numV (decide (y<0)) a2 (lenB y.natAbs) c2] w fun e w'=>e=.returned (.int .i64 (cmpZ z y))∧Below w.heap.size w w':=by
 have h:=cmp_any (decide (z<0)) a (lenB z.natAbs) c (dgi z.natAbs) (decide (y<0)) a2 (lenB y.natAbs) c2 (dgi y.natAbs) w h1 hn1 hc1 h2 hn2 hc2;rw[canon_val,canon_val] at h;exact h
theorem wrap_step (g d:Int):wrap64 (wrap64 (wrap64 g*1000000000)-d)=wrap64 (g*1000000000-d):=by
 unfold wrap64;omega
theorem wrap64_in {x:Int} (h:-9223372036854775808≤x∧x≤9223372036854775807):wrap64 x=x:=by
 unfold wrap64;omega
theorem row_new (w:World) (v:Value) (t:TypeId):(w.alloc (.cells #[v] t)).rowIs w.heap.size t 1 (fun _=>v):=World.rowIs_alloc w #[v] t (fun _=>v) (fun i hi=>by
 match i,hi with
 | 0,_=>rfl)
theorem own_num1 {T L b:Nat} {s:Bool} {a:Option Addr} {o:Nat→Int} {w:World} (h:∃ x:Option Addr,numV s a L L=numV s x L L∧Own T w b x L L o):Own T w b a L L o:=by
 obtain⟨x,e,h1⟩:=h;simp only[numV,Value.agg.injEq,Array.mk.injEq,List.cons.injEq,Value.slice.injEq,and_true,true_and] at e;rw[e];exact h1
open Classical in
theorem back_ok (z:Int) (a:Option Addr) (cap:Nat) (w:World) (h:Rd w a (lenB z.natAbs) (dgi z.natAbs)) (hcap:lenB z.natAbs≤cap) (h1:-9223372036854775808≤z) (h2:z≤9223372036854775807) :
  Calls Tryz.prog 219 #[numV (decide (z<0)) a (lenB z.natAbs) cap] w fun e w'=>e=.returned (.tuple #[.int .i64 z,.int .i64 0])∧Below w.heap.size w w':=by
 have HZ:=qh (And.intro h1 h2);have hL3:lenB z.natAbs≤3:=len3 (by omega);obtain⟨mn,hmn,OFN⟩:=of_min;obtain⟨mx,hmx,OFX⟩:=of_max;have hL4:lenB mn.natAbs≤3:=len3 (by omega);have hL5:lenB mx.natAbs≤3:=len3 (by omega);have hc1:∃ c,cmpZ z mn=c∧decide (c<0)=false:=⟨_,rfl,decide_eq_false (by unfold cmpZ;split;omega;split <;> omega)⟩;have hc2:∃ c,cmpZ z mx=c∧decide (0<c)=false:=⟨_,rfl,decide_eq_false (by unfold cmpZ;split;omega;split <;> omega)⟩;obtain⟨c1,e1,g1⟩:=hc1;obtain⟨c2,e2,g2⟩:=hc2;have HOFN:=qh OFN;have HOFX:=qh OFX;clear h1 h2 OFN OFX hmn hmx;have CHK:=qh (fun (w':World) (hb:Below w.heap.size w w')=>check_any (decide (z<0)) a (lenB z.natAbs) cap (dgi z.natAbs) w' (h.below hb) (by omega));rw[decide_eq_true (canon_ok z)] at CHK;have CM1:=qh (fun (w':World) (hb:Below w.heap.size w w') (a2:Option Addr) (c2:Nat) (h2:Rd w' a2 (lenB mn.natAbs) (dgi mn.natAbs)) (hc2:lenB mn.natAbs≤c2)=>cmp_can z mn a cap a2 c2 w' (h.below hb) (by omega) hcap h2 (by omega) hc2);have CM2:=qh (fun (w':World) (hb:Below w.heap.size w w') (a2:Option Addr) (c2:Nat) (h2:Rd w' a2 (lenB mx.natAbs) (dgi mx.natAbs)) (hc2:lenB mx.natAbs≤c2)=>cmp_can z mx a cap a2 c2 w' (h.below hb) (by omega) hcap h2 (by omega) hc2);rw[e1] at CM1;rw[e2] at CM2;have HR:=qh h;have HB1:=qh (Bx.new w 26 (.bool (decide (z<0))) (.slice a (lenB z.natAbs) cap));clear h e1 e2;refine(callsIn_wide (n:=4)).1 (callsIn_of_wp_marks Tryz.func219 rfl trivial ?_ rfl);simp only[Tryz.ntmps219,List.size_toArray,List.length_cons,List.length_nil,Nat.reduceAdd,Nat.reduceSub,Array.replicate_succ,Array.replicate_zero,List.push_toArray,List.append_toArray,List.nil_append,List.cons_append]
 refine wpIn_wide.2 ?_;go_wp2_with fail
 refine(CHK.out _ ?_).mono ?_
 ·exact qg
 rintro e w1 ⟨rfl,hb1⟩;have HB1:=qh (HB1.out.below hb1 HB1.out.lt);have HG1:=qh (((Below.refl _ _).alloc (by go_size) _).trans (hb1.mono (by go_size)):Below w.heap.size w w1);clear hb1;obtain⟨b10,b11,b12,b13⟩:=HB1.out.all
 go_upto_region 3 with (fail)
 have HS1:=qh (fun (w':World) (hb:Below w1.heap.size w1 w')=>And.intro (HB1.out.below hb HB1.out.lt).c0 (HB1.out.below hb HB1.out.lt).c1)
 refine wp_region_fresh 9 (spOf [(1,Sp.made (fun x:Option Addr=>numV (decide (mn<0)) x (lenB mn.natAbs) (lenB mn.natAbs)) (fun x w'=>Own 160 w' w1.heap.size x (lenB mn.natAbs) (lenB mn.natAbs) (dgi mn.natAbs))),(2,Sp.know (.int .i64 c1)),
   (6,Sp.made (fun x:Option Addr=>numV (decide (mx<0)) x (lenB mx.natAbs) (lenB mx.natAbs)) (fun x w'=>Own 160 w' w1.heap.size x (lenB mx.natAbs) (lenB mx.natAbs) (dgi mx.natAbs))),(7,Sp.know (.int .i64 c2))])
  (fun w'=>Below w1.heap.size w1 w') (by kernel_rfl) (by kernel_rfl)
  (spOf_cons (Sp.made_keeps fun x w w' h hb=>h.below hb) (spOf_cons (Sp.know_keeps _) (spOf_cons (Sp.made_keeps fun x w w' h hb=>h.below hb) (spOf_cons (Sp.know_keeps _) spOf_nil)))) (fun _ _ h hb=>h.trans (hb.mono h.size)) ((Below.refl _ _).drew) ?_
 simp only[List.take_succ_cons,List.take_zero,List.drop_succ_cons,List.drop_zero]
 (refine wpF_reads rfl rfl ?_ (fun w' hw'=>?_) ?_;rotate_left;· (have hb':=Has.world hw';(have hs:=HS1.out _ hb');clear hw';go_simp;try rfl))
 conv=>arg 9;simp only[Act.put,zq0,zq1,zq2]
 (refine wpF_spec rfl rfl (fun w' hw'=>?_) ?_;· (have hb':=Has.world hw';go_simp;((refine(HOFN.out w').mono ?_;rintro e w'' ⟨a,rfl,ho,-,hb⟩;exact⟨_,rfl,⟨⟨a,rfl⟩,⟨a,rfl,ho.mono hb'.size⟩⟩,hb⟩))))
 rintro _ ⟨x,rfl⟩
 conv=>arg 9;simp only[Act.put,zq0,zq1,zq2]
 (refine wpF_spec rfl rfl (fun w' hw'=>?_) ?_;· (have hb':=Has.world hw';go_simp;((have h7:=own_num1 (T:=160) (a:=x) (b:=w1.heap.size) (s:=decide (mn<0)) (L:=lenB mn.natAbs) (o:=dgi mn.natAbs) (hw'.fact 1 (by kernel_rfl));refine(CM1.out w' (HG1.out.trans (hb'.mono HG1.out.size)) x _ h7.rd (Nat.le_refl _)).mono ?_;rintro e w'' ⟨rfl,hb⟩;exact⟨_,rfl,rfl,hb⟩))))
 rintro _ rfl
 conv=>arg 9;simp only[Act.put,zq0,zq1,zq2]
 iterate 2
  (refine wpF_reads rfl rfl ?_ (fun w' hw'=>?_) ?_;rotate_left;· (have hb':=Has.world hw';(skip);clear hw';go_simp;try rfl))
  conv=>arg 9;simp only[Act.put,zq0,zq1,zq2]
 (refine wpF_readsG (by rfl) rfl ?_ (fun w' hw'=>?_) ?_;rotate_left;· (have hb':=Has.world hw';(have hs:=HS1.out _ hb');clear hw';go_simp;try rfl))
 conv=>arg 9;simp only[Act.put,zq0,zq1,zq2]
 (refine wpF_gspec (by rfl) rfl (fun w' hw'=>?_) ?_;· (have hb':=Has.world hw';go_simp;((refine(HOFX.out w').mono ?_;rintro e w'' ⟨a,rfl,ho,-,hb⟩;exact⟨_,rfl,⟨⟨a,rfl⟩,⟨a,rfl,ho.mono hb'.size⟩⟩,hb⟩))))
 rintro _ ⟨y,rfl⟩
 conv=>arg 9;simp only[Act.put,zq0,zq1,zq2]
 (refine wpF_gspec (by rfl) rfl (fun w' hw'=>?_) ?_;· (have hb':=Has.world hw';go_simp;((have h7:=own_num1 (T:=160) (a:=y) (b:=w1.heap.size) (s:=decide (mx<0)) (L:=lenB mx.natAbs) (o:=dgi mx.natAbs) (hw'.fact 6 (by kernel_rfl));refine(CM2.out w' (HG1.out.trans (hb'.mono HG1.out.size)) y _ h7.rd (Nat.le_refl _)).mono ?_;rintro e w'' ⟨rfl,hb⟩;exact⟨_,rfl,rfl,hb⟩))))
 rintro _ rfl
 conv=>arg 9;simp only[Act.put,zq0,zq1,zq2]
 (refine wpF_readsG (by rfl) rfl ?_ (fun w' hw'=>?_) ?_;rotate_left;· (have hb':=Has.world hw';(skip);clear hw';go_simp;try rfl))
 conv=>arg 9;simp only[Act.put,zq0,zq1,zq2]
 refine wpF_nil (fun w2 hb2 hF5=>?_);have HB2:=qh (HB1.out.below hb2 HB1.out.lt);have HG2:=qh (HG1.out.trans (hb2.mono HG1.out.size));clear hF5 hb2 HS1 CHK CM1 CM2 HOFN HOFX b10 b11 b12 b13;obtain⟨b10,b11,b12,b13⟩:=HB2.out.all;go_wp2_with fail
 refine(bwd_any a (lenB z.natAbs) cap _).mono ?_;rintro e W0 ⟨rfl,hW0⟩
 have hs0:W0.heap.size=w2.heap.size+2:=by rw[hW0];simp
 have hB0:Below w2.heap.size w2 W0:=by rw[hW0];exact((Below.refl _ w2).alloc (Nat.le_refl _) _).alloc (by simp) _
 have hc0:W0.cell? ⟨w2.heap.size,0,none⟩=some (.int .i64 0):=by rw[hW0];exact(((row_new w2 (.int .i64 0) 2).alloc _).cell (i:=0) (by omega))
 have hf0:W0.frozen? ⟨w2.heap.size,0,none⟩=false:=by rw[hW0];exact(((row_new w2 (.int .i64 0) 2).alloc _).frozen 0)
 have hc1:W0.rowIs (w2.heap.size+1) 24 1 (fun _=>.slice a (lenB z.natAbs) cap):=by
  rw[hW0];have:=(row_new (w2.alloc (.cells #[.int .i64 0] 2)) (.slice a (lenB z.natAbs) cap) 24);rw[World.size_alloc] at this;exact this
 rw[World.size_alloc];clear hW0;have hM:=lt_pw_lenB z.natAbs;have hR2:=HR.out.below HG2.out
 have hlt2:∀ p,a=some p→0<lenB z.natAbs→p.block<w2.heap.size:=by
  intro p hp h0;obtain⟨b,off,hab,hcs⟩:=hR2.cells h0
  rw[hab] at hp;cases hp
  exact block_lt_of_cell (hcs 0 h0)
 have HH:=qh (And.intro hM (And.intro hR2 hlt2));have HC0:=qh (And.intro hc0 (And.intro hf0 hc1));have HB0:=qh hB0;have HS0:=qh hs0;clear hM hR2 hlt2 hc0 hf0 hc1 hB0 hs0;go_wp2_with fail
 refine(wpIn_wide (n:=4)).1 ?_
 refine wpIn_rangeFunc_ownF rfl (by omega) (gf:=275) (lb:=#[.pointer (some ⟨w2.heap.size+1,0,none⟩)]) rfl trivial (enters_of Tryz.func275 (by kernel_rfl) rfl)
  (bwd_stops Fence.wide 3 trivial rfl (by omega) (w2.heap.size+1) w2.heap.size z.natAbs (lenB z.natAbs) cap a (by omega) W0 HB0.out.size HC0.out.2.2 (HH.out.2.1.below HB0.out) HH.out.2.2) KpB.trans (KpB.back HB0.out.size HC0.out.2.2.lt) (Below.refl _ _) (fun _=>rfl)
  (fun pre W=>(W.cell? ⟨w2.heap.size,0,none⟩=some (.int .i64 (wrap64 (gather z.natAbs pre)))∧W.frozen? ⟨w2.heap.size,0,none⟩=false)∧Below w2.heap.size w2 W)
  (fun _ _ _=>False)
  (OwnFrom.and (Go.Own.from (fun s A B row hs hg hr=>⟨cell_kept hs.1 hg hr,(frozen_kept hs.1 hg hr).trans hs.2⟩) _) (ownFrom_below (Nat.le_refl _) (by rw[HS0.out];omega)))
  (fun _ _ _ _ _ hs _ _=>hs)
  ⟨⟨by rw[show gather z.natAbs []=0 from rfl,wrap64_in (by omega)];exact HC0.out.1,HC0.out.2.1⟩,HB0.out⟩
  (fun k=>{ tmps:=#[numV (decide (z<0)) a (lenB z.natAbs) cap,.pointer (some ⟨w.heap.size,0,none⟩),.int .i64 0,.int .i64 0,.pointer (some ⟨w2.heap.size,0,none⟩),undef,.int .u32 (dgi z.natAbs k),.bool false,.agg #[.bool (decide (z<0)),.slice a (lenB z.natAbs) cap],.bool true,.bool false,.bool false,.agg #[.bool (decide (z<0)),.slice a (lenB z.natAbs) cap],numV (decide (mn<0)) x (lenB mn.natAbs) (lenB mn.natAbs),.int .i64 c1,.bool false,.bool false,.agg #[.bool (decide (z<0)),.slice a (lenB z.natAbs) cap],numV (decide (mx<0)) y (lenB mx.natAbs) (lenB mx.natAbs),.int .i64 c2,.bool false,.bool false,.pointer (some ⟨w.heap.size,1,none⟩),.slice a (lenB z.natAbs) cap,.func (.func 275) #[] #[.pointer (some ⟨w2.heap.size+1,0,none⟩)],.int .i64 (k:Int),.int .u32 (dgi z.natAbs k),undef,undef,undef,undef,undef,undef,undef,undef,undef,undef,undef],defers:=[] }) ?assign ?body ?done ?stop
 case assign =>
  intro l k W K hK
  gi_wp2
  exact hK
 case body =>
  rintro l pre k W ⟨⟨hc,hf⟩,hB⟩ _;have hd:=dgi_Dig z.natAbs (k+1) k (by omega);have u1:=IntWalk.i64_in (dgi z.natAbs k) (by omega);have HB:=qh hB;have hwr:=wrap_step (gather z.natAbs pre) (dgi z.natAbs k);rw[← gather_snoc] at hwr;have HW:=qh hwr;clear hwr hB
  gi_wp2
  refine⟨KeepsOthers.setCell _ _ _,⟨(Below.refl w2.heap.size W).setCell (p:=⟨w2.heap.size,0,none⟩) (Nat.le_refl _) _,Below.heap_setCell _ _ _ _ (by dsimp only;omega)⟩,⟨?_,by rw[World.frozen?_setCell];exact hf⟩,HB.out.setCell (p:=⟨w2.heap.size,0,none⟩) (Nat.le_refl _) _⟩;rw[← HW.out];exact World.cell?_setCell_same' _ _ _ (by rw[hc];rfl)
 case done =>
  rintro D ys W hD rfl ⟨⟨hc,hf⟩,hB⟩ hK;rw[gather_all _ _ HH.out.1,wrap64_in (by have:=HZ.out;omega)] at hc;have B3:=HB2.out.below hB HB2.out.lt;have HG3:=qh (HG2.out.trans (hB.mono HG2.out.size));obtain⟨b30,b31,b32,b33⟩:=B3.all;have HD:=qh hD;have HK:=qh hK;clear hD hK hB B3
  by_cases hneg:z<0
  ·have hdn:decide (z<0)=true:=decide_eq_true hneg
   have hval:-(z.natAbs:Int)=z:=by omega
   rw[hval] at hc;clear hneg hval;go_wp2_with fail
   refine⟨by simp,.inl ⟨_,_,rfl,run_takeDeferred HK.out,?_⟩⟩;exact⟨_,results_tmp2 rfl _ _ _,rfl,HG3.out.trans (belowK_b (w:=W0) (Nat.le_trans HG2.out.size HB0.out.size) _ D _ _ HD.out HK.out rfl rfl)⟩
  ·have hdn:decide (z<0)=false:=decide_eq_false hneg;have EW:=qh (show wrap64 (z.natAbs:Int)=z by rw[wrap64_in (by have:=HZ.out;omega)];omega);clear hneg;go_wp2_with fail
   have hK2:=(KeepsOthers.setCell W ⟨w2.heap.size,0,none⟩ (.int .i64 (wrap64 (z.natAbs:Int)))).same D _ HK.out rfl;refine⟨by simp,.inl ⟨_,_,rfl,run_takeDeferred hK2,?_⟩⟩;exact⟨_,results_tmp2 rfl _ _ _,by rw[EW.out];rfl,(HG3.out.setCell (p:=⟨w2.heap.size,0,none⟩) HG2.out.size _).trans (belowK_b (w:=W0) (Nat.le_trans HG2.out.size HB0.out.size) _ D _ _ HD.out hK2 rfl rfl)⟩
 case stop =>
  rintro D c pre W _ _ h _;exact h.elim
end Go.Proofs.YtgkkbkoiaccmfaaGreatDoor.Limb
namespace Go.Proofs.YtgkkbkoiaccmfaaGreatDoor.Limb
open Go.RowKit Go.Sort Go.Fresh
theorem gcd_step (x y:Int):Int.gcd x y=Int.gcd y (x%y):=by rw[Int.emod_def,Int.gcd_sub_mul_left_right,Int.gcd_comm]
structure RdS (w:World) (lo hi:Nat) (a:Option Addr) (n:Nat) (o:Nat→Int):Prop where
 rd:Rd w a n o
 far:0<n→∀ p,a=some p→p.block<lo∨hi≤p.block
theorem RdS.below {w w':World} {lo hi:Nat} {a:Option Addr} {n:Nat} {o:Nat→Int} (h:RdS w lo hi a n o) (hb:Below w.heap.size w w'):RdS w' lo hi a n o:=⟨h.rd.below hb,h.far⟩
theorem RdS.set {w:World} {lo hi:Nat} {a:Option Addr} {n:Nat} {o:Nat→Int} (h:RdS w lo hi a n o) {p:Addr} (h1:lo≤p.block) (h2:p.block<hi) (v:Value):RdS (w.setCell p v) lo hi a n o:=by
 refine⟨⟨fun hn=>?_,h.rd.rng⟩,h.far⟩;obtain⟨b,off,ha,hc⟩:=h.rd.cells hn;refine⟨b,off,ha,fun i hi'=>?_⟩;have hf:=h.far hn _ ha;dsimp only at hf;rw[← hc i hi'];exact World.cell?_of_block (Below.heap_setCell _ _ _ _ (by dsimp only;omega))
structure Nm (w:World) (lo hi:Nat) (z:Int) (a:Option Addr) (c:Nat):Prop where
 r:RdS w lo hi a (lenB z.natAbs) (dgi z.natAbs)
 le:lenB z.natAbs≤c
 small:lenB z.natAbs≤10000000
theorem Nm.below {w w':World} {lo hi:Nat} {z:Int} {a:Option Addr} {c:Nat} (h:Nm w lo hi z a c) (hb:Below w.heap.size w w'):Nm w' lo hi z a c:=⟨h.r.below hb,h.le,h.small⟩
theorem Nm.set {w:World} {lo hi:Nat} {z:Int} {a:Option Addr} {c:Nat} (h:Nm w lo hi z a c) {p:Addr} (h1:lo≤p.block) (h2:p.block<hi) (v:Value):Nm (w.setCell p v) lo hi z a c:=⟨h.r.set h1 h2 v,h.le,h.small⟩
def gmeas (w:World) (b:Nat):Nat:=match w.cell? ⟨b,1,none⟩ with
 | some (.slice (some p) n _)=>(sumB (fun i=>match w.cell? ⟨p.block,p.off+i,none⟩ with | some (.int _ d)=>d | _=>0) n).toNat
 | _=>0
theorem gmeas_eq {w:World} {b:Nat} {t:TypeId} {s:Value} {a:Option Addr} {c M:Nat} (h:Bx w b t s (.slice a (lenB M) c)) (hr:Rd w a (lenB M) (dgi M)):gmeas w b=M:=by
 unfold gmeas;rw[h.c1]
 by_cases h0:0<lenB M
 ·obtain⟨g,off,rfl,hc⟩:=hr.cells h0;dsimp only;rw[sumB_congr (o':=dgi M) (fun i hi=>by rw[hc i hi])];rw[sumB_dgi];omega
 ·have hM:M=0:=lenB_eq_zero.1 (by omega);subst hM
  cases a with
  | none=>rfl
  | some p =>
   dsimp only;rw[lenB_zero];rfl
theorem back_amt (N:Nat) (a:Option Addr) (cap:Nat) (w:World) (h:Rd w a (lenB N) (dgi N)) (hcap:lenB N≤cap) (h2:lenB N≤2) :
  Calls Tryz.prog 219 #[numV false a (lenB N) cap] w fun e w'=>e=.returned (.tuple #[.int .i64 (N:Int),.int .i64 0])∧Below w.heap.size w w':=by
 have hN:N<1000000000000000000:=Nat.lt_of_lt_of_le (lt_pw_lenB N) (pw_le h2);have hb:=back_ok (N:Int) a cap w (by rw[Int.natAbs_natCast];exact h) (by rw[Int.natAbs_natCast];exact hcap) (by omega) (by omega);rw[Int.natAbs_natCast,show decide ((N:Int)<0)=false from decide_eq_false (by omega)] at hb;exact hb
theorem small_amt {N:Nat} (h:lenB N≤2):(N:Int)≤999999999999999999:=by
 have hN:N<1000000000000000000:=Nat.lt_of_lt_of_le (lt_pw_lenB N) (pw_le h);omega
open Classical in
theorem gcd_any (s1:Bool) (a1:Option Addr) (n1 c1:Nat) (o1:Nat→Int) (s2:Bool) (a2:Option Addr) (n2 c2:Nat) (o2:Nat→Int) (w:World)
  (h1:Rd w a1 n1 o1) (hn1:n1≤10000000) (hc1:n1≤c1) (h2:Rd w a2 n2 o2) (hn2:n2≤10000000) (hc2:n2≤c2) :
  Calls Tryz.prog 136 #[numV s1 a1 n1 c1,numV s2 a2 n2 c2] w (ResN w (Int.gcd (valN s1 n1 o1) (valN s2 n2 o2):Nat)):=by
 obtain⟨x1,d1,r1,l1,m1,O1⟩:=of_any s1 a1 n1 c1 o1 w h1 (by omega) hc1;obtain⟨x2,d2,r2,l2,m2,O2⟩:=of_any s2 a2 n2 c2 o2 w h2 (by omega) hc2
 generalize valN s1 n1 o1=z1 at r1 l1 m1 O1 ⊢
 generalize valN s2 n2 o2=z2 at r2 l2 m2 O2 ⊢
 have N1:Nm w w.heap.size (w.heap.size+3) z1 x1 d1:=⟨⟨r1,fun h0 p hp=>Or.inl (by obtain⟨b,off,e,hc⟩:=r1.cells h0;rw[e] at hp;cases hp;exact block_lt_of_cell (hc 0 h0))⟩,m1,by omega⟩;have N2:Nm w w.heap.size (w.heap.size+3) z2 x2 d2:=⟨⟨r2,fun h0 p hp=>Or.inl (by obtain⟨b,off,e,hc⟩:=r2.cells h0;rw[e] at hp;cases hp;exact block_lt_of_cell (hc 0 h0))⟩,m2,by omega⟩;have HN:=qh (And.intro N1 N2);have HO1:=qh O1;have HO2:=qh O2;obtain⟨G,hG⟩:∃ G:Nat,G=Int.gcd z1 z2:=⟨_,rfl⟩;rw[← hG];have HGC:=qh hG;have B1:=(((Bx.new w 26 (.bool s1) (.slice a1 n1 c1)).alloc (.cells #[.bool s2,.slice a2 n2 c2] 26)).alloc (.cells #[.bool false,.slice none 0 0] 26));have B2:=((Bx.new2 w (.cells #[.bool s1,.slice a1 n1 c1] 26) 26 (.bool s2) (.slice a2 n2 c2)).alloc (.cells #[.bool false,.slice none 0 0] 26));have B3:=(Bx.new3 w (.cells #[.bool s1,.slice a1 n1 c1] 26) (.cells #[.bool s2,.slice a2 n2 c2] 26) 26 (.bool false) (.slice none 0 0));clear O1 O2 N1 N2 r1 r2 l1 l2 m1 m2 h1 h2 hG;go_enter Tryz.func136,Tryz.ntmps136
 go_upto_region 1 with (fail)
 obtain⟨W,hW⟩:∃ W,W=(((w.alloc (.cells #[.bool s1,.slice a1 n1 c1] 26)).alloc (.cells #[.bool s2,.slice a2 n2 c2] 26)).alloc (.cells #[.bool false,.slice none 0 0] 26)):=⟨_,rfl⟩;have G1:=qh (((Below.refl _ _).alloc (by go_size) _ |>.alloc (by go_size) _ |>.alloc (by go_size) _):Below w.heap.size w (((w.alloc (.cells #[.bool s1,.slice a1 n1 c1] 26)).alloc (.cells #[.bool s2,.slice a2 n2 c2] 26)).alloc (.cells #[.bool false,.slice none 0 0] 26)))
 have hWs:w.heap.size+3=W.heap.size:=by rw[hW];simp
 rw[← hW] at B1 B2 B3 G1;rw[show(((w.alloc (.cells #[.bool s1,.slice a1 n1 c1] 26)).alloc (.cells #[.bool s2,.slice a2 n2 c2] 26)).alloc (.cells #[.bool false,.slice none 0 0] 26))=W from hW.symm];have HB1:=qh B1;have HB2:=qh B2;have HB3:=qh B3;have HWS:=qh hWs;clear hW B1 B2 B3 hWs;have HS:=qh (fun (w':World) (hb:Below W.heap.size W w')=>And.intro (HB1.out.below hb HB1.out.lt) (And.intro (HB2.out.below hb HB2.out.lt) (HB3.out.below hb HB3.out.lt)))
 refine wp_region_fresh 3 (spOf [(1,Sp.know (numV (decide (z1<0)) x1 (lenB z1.natAbs) d1))]) (fun w'=>Below W.heap.size W w') (by kernel_rfl) (by kernel_rfl)
  (spOf_cons (Sp.know_keeps _) spOf_nil) (fun _ _ h hb=>h.trans (hb.mono h.size)) ((Below.refl _ _).drew) ?_
 simp only[List.take_succ_cons,List.take_zero,List.drop_succ_cons,List.drop_zero]
 (refine wpF_reads rfl rfl ?_ (fun w' hw'=>?_) ?_;rotate_left;· (have hb':=Has.world hw';(obtain⟨y0,y1,y2,y3⟩:=(HS.out _ hb').1.all);clear hw';go_simp;try rfl))
 conv=>arg 9;simp only[Act.put,zq0,zq1,zq2]
 (refine wpF_spec rfl rfl (fun w' hw'=>?_) ?_;· (have hb':=Has.world hw';go_simp;((refine(HO1.out w' (G1.out.trans (hb'.mono G1.out.size))).mono ?_;rintro e w'' ⟨rfl,hb⟩;exact⟨_,rfl,rfl,hb⟩))))
 rintro _ rfl
 conv=>arg 9;simp only[Act.put,zq0,zq1,zq2]
 (refine wpF_reads rfl rfl ?_ (fun w' hw'=>?_) ?_;rotate_left;· (have hb':=Has.world hw';(obtain⟨y0,y1,y2,y3⟩:=(HS.out _ hb').2.1.all);clear hw';go_simp;try rfl))
 conv=>arg 9;simp only[Act.put,zq0,zq1,zq2]
 refine wpF_nil (fun w1 hb1 hF=>?_);have GB:=qh hb1;clear hF hb1;go_wp2_with fail
 refine(HO2.out w1 (G1.out.trans (GB.out.mono G1.out.size))).mono ?_;rintro e w2 ⟨rfl,hb2⟩;have GB:=qk GB hb2;have M:=HS.out _ GB.out;have HM:=qh M;clear hb2 HO1 HO2;obtain⟨b10,b11,b12,b13⟩:=M.1.all;obtain⟨b20,b21,b22,b23⟩:=M.2.1.all;clear M;go_wp2_with fail
 have hws:=HWS.out;have K1:=qh (((HM.out.1.set (.bool (decide (z1<0))) (.slice x1 (lenB z1.natAbs) d1)).other (a:=⟨w.heap.size+1,0,none⟩) (by dsimp only;omega) (.bool (decide (z2<0)))).other (a:=⟨w.heap.size+1,1,none⟩) (by dsimp only;omega) (.slice x2 (lenB z2.natAbs) d2));have K2:=qh (((HM.out.2.1.other (a:=⟨w.heap.size,0,none⟩) (by dsimp only;omega) (.bool (decide (z1<0)))).other (a:=⟨w.heap.size,1,none⟩) (by dsimp only;omega) (.slice x1 (lenB z1.natAbs) d1)).set (.bool (decide (z2<0))) (.slice x2 (lenB z2.natAbs) d2));have K3:=qh ((((HM.out.2.2.other (a:=⟨w.heap.size,0,none⟩) (by dsimp only;omega) (.bool (decide (z1<0)))).other (a:=⟨w.heap.size,1,none⟩) (by dsimp only;omega) (.slice x1 (lenB z1.natAbs) d1)).other (a:=⟨w.heap.size+1,0,none⟩) (by dsimp only;omega) (.bool (decide (z2<0)))).other (a:=⟨w.heap.size+1,1,none⟩) (by dsimp only;omega) (.slice x2 (lenB z2.natAbs) d2));have hw2:=G1.out.trans (GB.out.mono G1.out.size);have KG:=qh ((((hw2.setCell (p:=⟨w.heap.size,0,none⟩) (Nat.le_refl _) (.bool (decide (z1<0)))).setCell (p:=⟨w.heap.size,1,none⟩) (Nat.le_refl _) (.slice x1 (lenB z1.natAbs) d1)).setCell (p:=⟨w.heap.size+1,0,none⟩) (by dsimp only;omega) (.bool (decide (z2<0)))).setCell (p:=⟨w.heap.size+1,1,none⟩) (by dsimp only;omega) (.slice x2 (lenB z2.natAbs) d2));have KN1:=qh (((((HN.out.1.below hw2).set (p:=⟨w.heap.size,0,none⟩) (Nat.le_refl _) (by dsimp only;omega) (.bool (decide (z1<0)))).set (p:=⟨w.heap.size,1,none⟩) (Nat.le_refl _) (by dsimp only;omega) (.slice x1 (lenB z1.natAbs) d1)).set (p:=⟨w.heap.size+1,0,none⟩) (by dsimp only;omega) (by dsimp only;omega) (.bool (decide (z2<0)))).set (p:=⟨w.heap.size+1,1,none⟩) (by dsimp only;omega) (by dsimp only;omega) (.slice x2 (lenB z2.natAbs) d2))
 have KN2:=qh (((((HN.out.2.below hw2).set (p:=⟨w.heap.size,0,none⟩) (Nat.le_refl _) (by dsimp only;omega) (.bool (decide (z1<0)))).set (p:=⟨w.heap.size,1,none⟩) (Nat.le_refl _) (by dsimp only;omega) (.slice x1 (lenB z1.natAbs) d1)).set (p:=⟨w.heap.size+1,0,none⟩) (by dsimp only;omega) (by dsimp only;omega) (.bool (decide (z2<0)))).set (p:=⟨w.heap.size+1,1,none⟩) (by dsimp only;omega) (by dsimp only;omega) (.slice x2 (lenB z2.natAbs) d2));clear hw2 hws HM HS HN b10 b11 b12 b13 b20 b21 b22 b23
 go_loopw [] (fun wr=>∃ (x y:Int) (ax ay:Option Addr) (dx dy:Nat),Int.gcd x y=G∧Nm wr w.heap.size (w.heap.size+3) x ax dx∧Nm wr w.heap.size (w.heap.size+3) y ay dy ∧
   Bx wr w.heap.size 26 (.bool (decide (x<0))) (.slice ax (lenB x.natAbs) dx)∧Bx wr (w.heap.size+1) 26 (.bool (decide (y<0))) (.slice ay (lenB y.natAbs) dy)∧Bx wr (w.heap.size+1+1) 26 (.bool false) (.slice none 0 0)∧Below w.heap.size w wr) (fun wr=>gmeas wr (w.heap.size+1))
 case atStart=>exact⟨z1,z2,x1,x2,d1,d2,HGC.out.symm,KN1.out,KN2.out,K1.out,K2.out,K3.out,KG.out⟩
 case round =>
  obtain⟨x,y,ax,ay,dx,dy,hg,hx,hy,hB1,hB2,hB3,hb⟩:=hrel;obtain⟨wo,rfl⟩:∃ wo:World,wo=wr:=⟨_,rfl⟩;have HX:=qh hx;have HY:=qh hy;have HG:=qh hg;have HB:=qh hb;have HB1:=qh hB1;have HB2:=qh hB2;have HB3:=qh hB3;have HM0:=qh (gmeas_eq hB2 hy.r.rd);obtain⟨Lx,hLx⟩:∃ Lx,Lx=lenB x.natAbs:=⟨_,rfl⟩;obtain⟨Ly,hLy⟩:∃ Ly,Ly=lenB y.natAbs:=⟨_,rfl⟩
  have hsx:Lx≤10000000:=by rw[hLx];exact hx.small
  have hsy:Ly≤10000000:=by rw[hLy];exact hy.small
  have HL:=qh (And.intro hLx hLy);obtain⟨b10,b11,b12,b13⟩:=hB1.all;obtain⟨b20,b21,b22,b23⟩:=hB2.all;obtain⟨b30,b31,b32,b33⟩:=hB3.all;rw[← hLx] at b11;rw[← hLy] at b21;clear hx hy hg hb hB1 hB2 hB3 hLx hLy
  by_cases hy0:Ly=0
  ·subst hy0;have CL:=qh (clone_any ax Lx dx (dgi x.natAbs) wo (by rw[HL.out.1];exact HX.out.r.rd) (by omega));go_wp2_with fail
   refine CL.out.mono ?_;rintro e w4 ⟨ac,dc,rfl,hO,hn,hb4⟩;have HA:=qh (show AmtO w4 wo.heap.size ac Lx dc x.natAbs (dgi x.natAbs) from⟨hO,dgi_Dig _ _,by rw[HL.out.1];exact sumB_dgi _,by omega,hn⟩);have HB4:=qh hb4;clear hO hn hb4 CL b10 b11 b12 b13 b20 b21 b22 b23 b30 b31 b32 b33;have CT:=qh (cut_amt false false ac Lx dc x.natAbs wo.heap.size (dgi x.natAbs) w4 HA.out rfl);go_wp2_with fail
   refine CT.out.mono ?_;rintro e w5 ⟨rfl,hO,hb5⟩;have hb5':=HB4.out.trans (hb5.mono HB4.out.size);have M3:=HB3.out.below hb5' HB3.out.lt;have HM3:=qh M3;have HO5:=qh hO;have HB5:=qh (HB.out.trans (hb5'.mono HB.out.size));have HNN:=qh HA.out.none;clear hO hb5 hb5' CT;obtain⟨b30,b31,b32,b33⟩:=M3.all;clear M3;go_wp2_with fail
   have hG:(G:Int)=(x.natAbs:Int):=by
    have hy:y=0:=by have:=lenB_eq_zero.1 HL.out.2.symm;omega
    rw[← HG.out,hy,Int.gcd_zero_right]
   have hlt:=HB3.out.lt
   have hLG:Lx=lenB ((G:Nat):Int).natAbs:=by rw[Int.natAbs_natCast,HL.out.1];congr 1;omega
   have hGx:x.natAbs=((G:Nat):Int).natAbs:=by rw[Int.natAbs_natCast];omega
   rw[← HL.out.1] at HO5 HNN;have HH:=qh (HM3.out.set (.bool false) (.slice ac (lenB x.natAbs) (lenB x.natAbs)));refine bodyPost_ret (results_cell rfl _ _ _ _ _ _ _ rfl HH.out Tryz.underlying26 rfl (by kernel_rfl)) rfl ⟨ac,?_,?_,?_,?_⟩
   ·rw[← hLG,HL.out.1,decide_eq_false (show ¬((G:Nat):Int)<0 by omega)]
   ·rw[← hLG,← hGx];exact((HO5.out.other (by dsimp only;omega) _).other (by dsimp only;omega) _).mono HB.out.size
   ·rw[← hLG];exact HNN.out
   ·exact(HB5.out.setCell (by dsimp only;omega) _).setCell (by dsimp only;omega) _
  ·have hy1:¬y=0:=fun h=>hy0 (by rw[HL.out.2,h];exact lenB_zero)
   have HY1:=qh hy1;clear hy1
   have hpos:0<Ly:=by omega
   by_cases hs1:Lx≤2
   ·have hs1':(Lx:Int)≤2:=by omega
    have hd1':decide ((Lx:Int)≤2)=true:=decide_eq_true hs1'
    by_cases hs2:Ly≤2
    ·have hs2':(Ly:Int)≤2:=by omega
     have hd2':decide ((Ly:Int)≤2)=true:=decide_eq_true hs2';have S1:=qh (small_amt (N:=x.natAbs) (by rw[← HL.out.1];exact hs1));have S2:=qh (small_amt (N:=y.natAbs) (by rw[← HL.out.2];exact hs2));have HLL:=qh (And.intro hs1 hs2);have CL:=qh (clone_any ax Lx dx (dgi x.natAbs) wo (by rw[HL.out.1];exact HX.out.r.rd) (by omega));go_wp2_with fail
     refine CL.out.mono ?_;rintro e w4 ⟨ac,dc,rfl,hO,hn,hb4⟩;have HA:=qh (show AmtO w4 wo.heap.size ac Lx dc x.natAbs (dgi x.natAbs) from⟨hO,dgi_Dig _ _,by rw[HL.out.1];exact sumB_dgi _,by omega,hn⟩);have HB4:=qh hb4;clear hO hn hb4 CL b10 b11 b12 b13 b20 b21 b22 b23 b30 b31 b32 b33;have CT:=qh (cut_amt false false ac Lx dc x.natAbs wo.heap.size (dgi x.natAbs) w4 HA.out rfl);go_wp2_with fail
     refine CT.out.mono ?_;rintro e w5 ⟨rfl,hO,hb5⟩;have HB4:=qk HB4 hb5;have BK:=qh (back_amt x.natAbs ac (lenB x.natAbs) w5 hO.rd (Nat.le_refl _) (by rw[← HL.out.1];exact HLL.out.1));clear hO hb5 CT HA;go_wp2_with fail
     refine BK.out.mono ?_;rintro e w6 ⟨rfl,hb6⟩;have HB6:=qh (HB4.out.trans (hb6.mono HB4.out.size));clear hb6 BK HB4;have M2:=HB2.out.below HB6.out HB2.out.lt;obtain⟨b20,b21,b22,b23⟩:=M2.all;clear M2;have CL:=qh (clone_any ay (lenB y.natAbs) dy (dgi y.natAbs) w6 (HY.out.r.rd.below HB6.out) (by have:=HL.out.2;omega));go_wp2_with fail
     refine CL.out.mono ?_;rintro e w4 ⟨ac2,dc2,rfl,hO,hn,hb4⟩;have HA:=qh (show AmtO w4 w6.heap.size ac2 (lenB y.natAbs) dc2 y.natAbs (dgi y.natAbs) from⟨hO,dgi_Dig _ _,sumB_dgi _,by have:=HL.out.2;omega,hn⟩);have HB4:=qh (HB6.out.trans (hb4.mono HB6.out.size));clear hO hn hb4 CL HB6 b20 b21 b22 b23;have CT:=qh (cut_amt false false ac2 (lenB y.natAbs) dc2 y.natAbs w6.heap.size (dgi y.natAbs) w4 HA.out rfl);go_wp2_with fail
     refine CT.out.mono ?_;rintro e w5 ⟨rfl,hO,hb5⟩;have HB4:=qk HB4 hb5;have BK:=qh (back_amt y.natAbs ac2 (lenB y.natAbs) w5 hO.rd (Nat.le_refl _) (by rw[← HL.out.2];exact HLL.out.2));clear hO hb5 CT HA;go_wp2_with fail
     refine BK.out.mono ?_;rintro e w7 ⟨rfl,hb6⟩;have HB7:=qh (HB4.out.trans (hb6.mono HB4.out.size));clear hb6 BK HB4;go_wp2_with fail
     go_loopw [5,7] (fun m n wr=>∃ (p q:Nat),Nat.gcd p q=G∧(p:Int)≤999999999999999999∧(q:Int)≤999999999999999999∧m=.int .i64 (p:Int)∧n=.int .i64 (q:Int)∧Below wo.heap.size wo wr) (fun _ n _=>(intOf n).toNat)
     case atStart=>exact⟨x.natAbs,y.natAbs,HG.out,S1.out,S2.out,rfl,rfl,HB7.out⟩
     case round =>
      obtain⟨p,q,hpq,hp,hq,rfl,rfl,hbr⟩:=hrel;have HPQ:=qh hpq;have HBR:=qh hbr;clear hpq hbr
      by_cases hq0:0<q
      ·have hq0':0<(q:Int):=by omega
       have hqn:¬(q:Int)=0:=by omega
       obtain⟨r,hr⟩:∃ r:Nat,r=p%q:=⟨_,rfl⟩
       have t1:(p:Int).tmod (q:Int)=(r:Int):=by rw[hr,Int.natCast_emod];exact Int.tmod_eq_emod_of_nonneg (by omega)
       have hrq:r<q:=by rw[hr];exact Nat.mod_lt _ hq0
       have u1:=IntWalk.i64_in (r:Int) (by omega);have HR:=qh hr;have HRQ:=qh hrq;clear hr hrq;go_wp2_with fail
       go_quiet (fail);go_wp2_with fail
       go_roundw
       case rel=>exact⟨q,r,by rw[HR.out,Nat.gcd_comm,← Nat.gcd_rec,Nat.gcd_comm];exact HPQ.out,hq,by have:=HRQ.out;omega,rfl,rfl,bdrewN HBR.out _⟩
       case measure=>simp[intOf];exact HRQ.out
      ·have hq1:¬0<(q:Int):=by omega
       have hpG:p=G:=by rw[← HPQ.out,show q=0 by omega,Nat.gcd_zero_right]
       have OF:=qh (fun (w':World)=>of64_any (G:Int) w' (by omega) (by omega));have HPG:=qh hpG;rw[← hpG] at OF;clear hpG;go_wp2_with fail
       refine(OF.out _).mono ?_;rintro e w8 ⟨aG,rfl,hO,hn,hb8⟩;have hb9:=HBR.out.trans (hb8.mono HBR.out.size);have M3:=HB3.out.below hb9 HB3.out.lt;have HM3:=qh M3;have HO8:=qh (And.intro hO hn);have HB9:=qh (HB.out.trans (hb9.mono HB.out.size));have HS9:=qh HBR.out.size;clear hO hn hb8 hb9 OF;obtain⟨b30,b31,b32,b33⟩:=M3.all;clear M3;go_wp2_with fail
       have hlt:=HB3.out.lt;have hs9:=HS9.out;have hs10:=HB.out.size;rw[← HPG.out];refine bodyPost_ret (results_cell rfl _ _ _ _ _ _ _ rfl (HM3.out.set _ _) Tryz.underlying26 rfl (by kernel_rfl)) rfl ⟨aG,?_,?_,HO8.out.2,?_⟩
       ·rw[decide_eq_false (show ¬((p:Nat):Int)<0 by omega)];rfl
       ·exact((HO8.out.1.other (by dsimp only;omega) _).other (by dsimp only;omega) _).mono (by omega)
       ·exact(HB9.out.setCell (by dsimp only;omega) _).setCell (by dsimp only;omega) _
    ·have hs2':¬(Ly:Int)≤2:=by omega
     have hd2':decide ((Ly:Int)≤2)=false:=decide_eq_false hs2';have DV:=qh (div_ok x y ax ay dx dy wo HX.out.r.rd HX.out.small HX.out.le HY.out.r.rd HY.out.small HY.out.le HY1.out);rw[← HL.out.1,← HL.out.2] at DV;go_wp2_with fail
     refine DV.out.mono ?_;rintro e w4 ⟨aq,ar,rfl,-,hor,-,-,-,hb4⟩;have hb4':=hb4;have HOR:=qh hor;have M1:=HB1.out.below hb4 HB1.out.lt;have M2:=HB2.out.below hb4 HB2.out.lt;have M3:=HB3.out.below hb4 HB3.out.lt;have HM:=qh (And.intro M1 (And.intro M2 M3));have HY4:=qh (HY.out.below hb4);have HB4:=qh hb4;clear hor hb4 hb4' DV b10 b11 b12 b13 b20 b21 b22 b23 b30 b31 b32 b33;obtain⟨b10,b11,b12,b13⟩:=M1.all;obtain⟨b20,b21,b22,b23⟩:=M2.all;clear M1 M2 M3;obtain⟨R,hR⟩:∃ R,R=x%y:=⟨_,rfl⟩;obtain⟨Q,hQ⟩:∃ Q,Q=x/y:=⟨_,rfl⟩;rw[← hR] at HOR ⊢;rw[← hQ];have HRX:=qh hR;clear hR hQ
     go_upto_region 10 with (fail)
     obtain⟨U,hU⟩:∃ U,U=(w4.alloc (.cells #[.bool (decide (Q<0)),.slice aq (lenB Q.natAbs) (lenB Q.natAbs)] 26)).alloc (.cells #[.bool (decide (R<0)),.slice ar (lenB R.natAbs) (lenB R.natAbs)] 26):=⟨_,rfl⟩
     have hbU:Below w4.heap.size w4 U:=by rw[hU];exact((Below.refl _ _).alloc (Nat.le_refl _) _).alloc (by simp) _
     have HRB:=qh (show Bx U (w4.heap.size+1) 26 (.bool (decide (R<0))) (.slice ar (lenB R.natAbs) (lenB R.natAbs)) by rw[hU];exact Bx.new2 w4 _ _ _ _);rw[show(w4.alloc (.cells #[.bool (decide (Q<0)),.slice aq (lenB Q.natAbs) (lenB Q.natAbs)] 26)).alloc (.cells #[.bool (decide (R<0)),.slice ar (lenB R.natAbs) (lenB R.natAbs)] 26)=U from hU.symm];have M1:=HM.out.1.below hbU HM.out.1.lt;have M2:=HM.out.2.1.below hbU HM.out.2.1.lt;have M3:=HM.out.2.2.below hbU HM.out.2.2.lt;have HMU:=qh (And.intro M1 (And.intro M2 M3));have HYU:=qh (HY4.out.below hbU);have HORU:=qh (HOR.out.below hbU);have HBU:=qh (HB.out.trans ((HB4.out.trans (hbU.mono HB4.out.size)).mono HB.out.size));clear hU hbU b10 b11 b12 b13 b20 b21 b22 b23 M3 HM HY4 HOR;obtain⟨b10,b11,b12,b13⟩:=M1.all;obtain⟨b20,b21,b22,b23⟩:=M2.all;obtain⟨b30,b31,b32,b33⟩:=HRB.out.all;clear M1 M2;obtain⟨br,hbr⟩:∃ br,br=w4.heap.size+1:=⟨_,rfl⟩
     have hbr2:w.heap.size+3<br:=by have h1:=HB3.out.lt;have h2:=HB4.out.size;omega
     rw[← hbr] at b30 b31 b32 b33 ⊢
     have ne1:¬br=w.heap.size:=by omega
     have ne2:¬br=w.heap.size+1:=by omega
     have ne3:¬w.heap.size=br:=by omega
     have ne4:¬w.heap.size+1=br:=by omega
     clear hbr hbr2;go_region;clear ne1 ne2 ne3 ne4
     have hwo:w.heap.size+3≤wo.heap.size:=by have:=HB3.out.lt;omega
     have m1:=(((HMU.out.1.set (.bool (decide (y<0))) (.slice ay (lenB y.natAbs) dy)).other (a:=⟨w.heap.size+1,0,none⟩) (by dsimp only;omega) (.bool (decide (R<0)))).other (a:=⟨w.heap.size+1,1,none⟩) (by dsimp only;omega) (.slice ar (lenB R.natAbs) (lenB R.natAbs)));have m2:=(((HMU.out.2.1.other (a:=⟨w.heap.size,0,none⟩) (by dsimp only;omega) (.bool (decide (y<0)))).other (a:=⟨w.heap.size,1,none⟩) (by dsimp only;omega) (.slice ay (lenB y.natAbs) dy)).set (.bool (decide (R<0))) (.slice ar (lenB R.natAbs) (lenB R.natAbs)));have m3:=((((HMU.out.2.2.other (a:=⟨w.heap.size,0,none⟩) (by dsimp only;omega) (.bool (decide (y<0)))).other (a:=⟨w.heap.size,1,none⟩) (by dsimp only;omega) (.slice ay (lenB y.natAbs) dy)).other (a:=⟨w.heap.size+1,0,none⟩) (by dsimp only;omega) (.bool (decide (R<0)))).other (a:=⟨w.heap.size+1,1,none⟩) (by dsimp only;omega) (.slice ar (lenB R.natAbs) (lenB R.natAbs)));have g1:=(((((HBU.out.setCell (p:=⟨w.heap.size,0,none⟩) (Nat.le_refl _) (.bool (decide (y<0)))).setCell (p:=⟨w.heap.size,1,none⟩) (Nat.le_refl _) (.slice ay (lenB y.natAbs) dy)).setCell (p:=⟨w.heap.size+1,0,none⟩) (by dsimp only;omega) (.bool (decide (R<0)))).setCell (p:=⟨w.heap.size+1,1,none⟩) (by dsimp only;omega) (.slice ar (lenB R.natAbs) (lenB R.natAbs))).drew);have n1:=((((HYU.out.set (p:=⟨w.heap.size,0,none⟩) (Nat.le_refl _) (by dsimp only;omega) (.bool (decide (y<0)))).set (p:=⟨w.heap.size,1,none⟩) (Nat.le_refl _) (by dsimp only;omega) (.slice ay (lenB y.natAbs) dy)).set (p:=⟨w.heap.size+1,0,none⟩) (by dsimp only;omega) (by dsimp only;omega) (.bool (decide (R<0)))).set (p:=⟨w.heap.size+1,1,none⟩) (by dsimp only;omega) (by dsimp only;omega) (.slice ar (lenB R.natAbs) (lenB R.natAbs)))
     have hRs:R.natAbs<y.natAbs:=by have h1:=Int.emod_nonneg x HY1.out;have h2:=Int.emod_lt x HY1.out;have h3:=HRX.out;omega
     have n2a:Nm U w.heap.size (w.heap.size+3) R ar (lenB R.natAbs):=⟨⟨HORU.out.rd,fun h0 p hp=>Or.inr (Nat.le_trans hwo (HORU.out.blk hp).2.1)⟩,Nat.le_refl _,Nat.le_trans (lenB_mono (Nat.le_of_lt hRs)) HY.out.small⟩;have n2:=((((n2a.set (p:=⟨w.heap.size,0,none⟩) (Nat.le_refl _) (by dsimp only;omega) (.bool (decide (y<0)))).set (p:=⟨w.heap.size,1,none⟩) (Nat.le_refl _) (by dsimp only;omega) (.slice ay (lenB y.natAbs) dy)).set (p:=⟨w.heap.size+1,0,none⟩) (by dsimp only;omega) (by dsimp only;omega) (.bool (decide (R<0)))).set (p:=⟨w.heap.size+1,1,none⟩) (by dsimp only;omega) (by dsimp only;omega) (.slice ar (lenB R.natAbs) (lenB R.natAbs)));have P1:=qh m1;have P2:=qh m2;have P3:=qh m3;have PG:=qh g1;have PN1:=qh n1;have PN2:=qh n2;have HRS:=qh hRs;clear m1 m2 m3 g1 n1 n2 n2a hRs hwo b10 b11 b12 b13 b20 b21 b22 b23 b30 b31 b32 b33;go_wp2_with fail
     go_roundw
     case rel =>
      refine⟨y,R,ay,ar,dy,lenB R.natAbs,?_,PN1.out.below (Below.refl _ _).drew,PN2.out.below (Below.refl _ _).drew,?_,P2.out,P3.out,PG.out⟩
      ·rw[HRX.out,← gcd_step];exact HG.out
      ·exact P1.out
     case measure =>
      rw[HM0.out];have h:=gmeas_eq (M:=R.natAbs) P2.out PN2.out.r.rd;exact Nat.lt_of_le_of_lt (Nat.le_of_eq h) HRS.out
   ·have hs1':¬(Lx:Int)≤2:=by omega
    have hd1':decide ((Lx:Int)≤2)=false:=decide_eq_false hs1';have DV:=qh (div_ok x y ax ay dx dy wo HX.out.r.rd HX.out.small HX.out.le HY.out.r.rd HY.out.small HY.out.le HY1.out);rw[← HL.out.1,← HL.out.2] at DV;go_wp2_with fail
    refine DV.out.mono ?_;rintro e w4 ⟨aq,ar,rfl,-,hor,-,-,-,hb4⟩;have hb4':=hb4;have HOR:=qh hor;have M1:=HB1.out.below hb4 HB1.out.lt;have M2:=HB2.out.below hb4 HB2.out.lt;have M3:=HB3.out.below hb4 HB3.out.lt;have HM:=qh (And.intro M1 (And.intro M2 M3));have HY4:=qh (HY.out.below hb4);have HB4:=qh hb4;clear hor hb4 hb4' DV b10 b11 b12 b13 b20 b21 b22 b23 b30 b31 b32 b33;obtain⟨b10,b11,b12,b13⟩:=M1.all;obtain⟨b20,b21,b22,b23⟩:=M2.all;clear M1 M2 M3;obtain⟨R,hR⟩:∃ R,R=x%y:=⟨_,rfl⟩;obtain⟨Q,hQ⟩:∃ Q,Q=x/y:=⟨_,rfl⟩;rw[← hR] at HOR ⊢;rw[← hQ];have HRX:=qh hR;clear hR hQ
    go_upto_region 10 with (fail)
    obtain⟨U,hU⟩:∃ U,U=(w4.alloc (.cells #[.bool (decide (Q<0)),.slice aq (lenB Q.natAbs) (lenB Q.natAbs)] 26)).alloc (.cells #[.bool (decide (R<0)),.slice ar (lenB R.natAbs) (lenB R.natAbs)] 26):=⟨_,rfl⟩
    have hbU:Below w4.heap.size w4 U:=by rw[hU];exact((Below.refl _ _).alloc (Nat.le_refl _) _).alloc (by simp) _
    have HRB:=qh (show Bx U (w4.heap.size+1) 26 (.bool (decide (R<0))) (.slice ar (lenB R.natAbs) (lenB R.natAbs)) by rw[hU];exact Bx.new2 w4 _ _ _ _);rw[show(w4.alloc (.cells #[.bool (decide (Q<0)),.slice aq (lenB Q.natAbs) (lenB Q.natAbs)] 26)).alloc (.cells #[.bool (decide (R<0)),.slice ar (lenB R.natAbs) (lenB R.natAbs)] 26)=U from hU.symm];have M1:=HM.out.1.below hbU HM.out.1.lt;have M2:=HM.out.2.1.below hbU HM.out.2.1.lt;have M3:=HM.out.2.2.below hbU HM.out.2.2.lt;have HMU:=qh (And.intro M1 (And.intro M2 M3));have HYU:=qh (HY4.out.below hbU);have HORU:=qh (HOR.out.below hbU);have HBU:=qh (HB.out.trans ((HB4.out.trans (hbU.mono HB4.out.size)).mono HB.out.size));clear hU hbU b10 b11 b12 b13 b20 b21 b22 b23 M3 HM HY4 HOR;obtain⟨b10,b11,b12,b13⟩:=M1.all;obtain⟨b20,b21,b22,b23⟩:=M2.all;obtain⟨b30,b31,b32,b33⟩:=HRB.out.all;clear M1 M2;obtain⟨br,hbr⟩:∃ br,br=w4.heap.size+1:=⟨_,rfl⟩
    have hbr2:w.heap.size+3<br:=by have h1:=HB3.out.lt;have h2:=HB4.out.size;omega
    rw[← hbr] at b30 b31 b32 b33 ⊢
    have ne1:¬br=w.heap.size:=by omega
    have ne2:¬br=w.heap.size+1:=by omega
    have ne3:¬w.heap.size=br:=by omega
    have ne4:¬w.heap.size+1=br:=by omega
    clear hbr hbr2;go_region;clear ne1 ne2 ne3 ne4
    have hwo:w.heap.size+3≤wo.heap.size:=by have:=HB3.out.lt;omega
    have m1:=(((HMU.out.1.set (.bool (decide (y<0))) (.slice ay (lenB y.natAbs) dy)).other (a:=⟨w.heap.size+1,0,none⟩) (by dsimp only;omega) (.bool (decide (R<0)))).other (a:=⟨w.heap.size+1,1,none⟩) (by dsimp only;omega) (.slice ar (lenB R.natAbs) (lenB R.natAbs)));have m2:=(((HMU.out.2.1.other (a:=⟨w.heap.size,0,none⟩) (by dsimp only;omega) (.bool (decide (y<0)))).other (a:=⟨w.heap.size,1,none⟩) (by dsimp only;omega) (.slice ay (lenB y.natAbs) dy)).set (.bool (decide (R<0))) (.slice ar (lenB R.natAbs) (lenB R.natAbs)));have m3:=((((HMU.out.2.2.other (a:=⟨w.heap.size,0,none⟩) (by dsimp only;omega) (.bool (decide (y<0)))).other (a:=⟨w.heap.size,1,none⟩) (by dsimp only;omega) (.slice ay (lenB y.natAbs) dy)).other (a:=⟨w.heap.size+1,0,none⟩) (by dsimp only;omega) (.bool (decide (R<0)))).other (a:=⟨w.heap.size+1,1,none⟩) (by dsimp only;omega) (.slice ar (lenB R.natAbs) (lenB R.natAbs)));have g1:=(((((HBU.out.setCell (p:=⟨w.heap.size,0,none⟩) (Nat.le_refl _) (.bool (decide (y<0)))).setCell (p:=⟨w.heap.size,1,none⟩) (Nat.le_refl _) (.slice ay (lenB y.natAbs) dy)).setCell (p:=⟨w.heap.size+1,0,none⟩) (by dsimp only;omega) (.bool (decide (R<0)))).setCell (p:=⟨w.heap.size+1,1,none⟩) (by dsimp only;omega) (.slice ar (lenB R.natAbs) (lenB R.natAbs))).drew);have n1:=((((HYU.out.set (p:=⟨w.heap.size,0,none⟩) (Nat.le_refl _) (by dsimp only;omega) (.bool (decide (y<0)))).set (p:=⟨w.heap.size,1,none⟩) (Nat.le_refl _) (by dsimp only;omega) (.slice ay (lenB y.natAbs) dy)).set (p:=⟨w.heap.size+1,0,none⟩) (by dsimp only;omega) (by dsimp only;omega) (.bool (decide (R<0)))).set (p:=⟨w.heap.size+1,1,none⟩) (by dsimp only;omega) (by dsimp only;omega) (.slice ar (lenB R.natAbs) (lenB R.natAbs)))
    have hRs:R.natAbs<y.natAbs:=by have h1:=Int.emod_nonneg x HY1.out;have h2:=Int.emod_lt x HY1.out;have h3:=HRX.out;omega
    have n2a:Nm U w.heap.size (w.heap.size+3) R ar (lenB R.natAbs):=⟨⟨HORU.out.rd,fun h0 p hp=>Or.inr (Nat.le_trans hwo (HORU.out.blk hp).2.1)⟩,Nat.le_refl _,Nat.le_trans (lenB_mono (Nat.le_of_lt hRs)) HY.out.small⟩;have n2:=((((n2a.set (p:=⟨w.heap.size,0,none⟩) (Nat.le_refl _) (by dsimp only;omega) (.bool (decide (y<0)))).set (p:=⟨w.heap.size,1,none⟩) (Nat.le_refl _) (by dsimp only;omega) (.slice ay (lenB y.natAbs) dy)).set (p:=⟨w.heap.size+1,0,none⟩) (by dsimp only;omega) (by dsimp only;omega) (.bool (decide (R<0)))).set (p:=⟨w.heap.size+1,1,none⟩) (by dsimp only;omega) (by dsimp only;omega) (.slice ar (lenB R.natAbs) (lenB R.natAbs)));have P1:=qh m1;have P2:=qh m2;have P3:=qh m3;have PG:=qh g1;have PN1:=qh n1;have PN2:=qh n2;have HRS:=qh hRs;clear m1 m2 m3 g1 n1 n2 n2a hRs hwo b10 b11 b12 b13 b20 b21 b22 b23 b30 b31 b32 b33;go_wp2_with fail
    go_roundw
    case rel =>
     refine⟨y,R,ay,ar,dy,lenB R.natAbs,?_,PN1.out.below (Below.refl _ _).drew,PN2.out.below (Below.refl _ _).drew,?_,P2.out,P3.out,PG.out⟩
     ·rw[HRX.out,← gcd_step];exact HG.out
     ·exact P1.out
    case measure =>
     rw[HM0.out];have h:=gmeas_eq (M:=R.natAbs) P2.out PN2.out.r.rd;exact Nat.lt_of_le_of_lt (Nat.le_of_eq h) HRS.out
def Bxs (w:World) (b:Nat) (t:TypeId) (l:List Value):Prop:=w.heap[b]?=some (.cells l.toArray t (0,0))
theorem Bxs.cell {w:World} {b:Nat} {t:TypeId} {l:List Value} (h:Bxs w b t l) {i:Nat} {v:Value} (hi:l[i]?=some v):w.cell? ⟨b,i,none⟩=some v:=by
 rw[cell_of_row _ _ _ _ _ _ h]
 simpa using hi
theorem Bxs.fz {w:World} {b:Nat} {t:TypeId} {l:List Value} (h:Bxs w b t l) (i:Nat):w.frozen? ⟨b,i,none⟩=false:=by
 simp only[World.frozen?];have h':w.heap[b]?=some (.cells l.toArray t (0,0)):=h;simp[h']
theorem Bxs.lt {w:World} {b:Nat} {t:TypeId} {l:List Value} (h:Bxs w b t l):b<w.heap.size:=(Array.getElem?_eq_some_iff.1 h).1
theorem Bxs.of {w w':World} {b:Nat} {t:TypeId} {l:List Value} (h:Bxs w b t l) (e:w'.heap[b]?=w.heap[b]?):Bxs w' b t l:=e.trans h
theorem Bxs.below {W w:World} {b B:Nat} {t:TypeId} {l:List Value} (h:Bxs W b t l) (hb:Below B W w) (hlt:b<B):Bxs w b t l:=h.of (hb.block b hlt)
theorem Bxs.alloc {w:World} {b:Nat} {t:TypeId} {l:List Value} (h:Bxs w b t l) (o:Obj):Bxs (w.alloc o) b t l:=h.of (heap_alloc_old w o h.lt)
theorem Bxs.other {w:World} {b:Nat} {t:TypeId} {l:List Value} (h:Bxs w b t l) {a:Addr} (ha:b≠a.block) (v:Value):Bxs (w.setCell a v) b t l:=h.of (Below.heap_setCell _ _ _ _ ha)
theorem Bxs.new (w:World) (t:TypeId) (l:List Value):Bxs (w.alloc (.cells l.toArray t)) w.heap.size t l:=heap_alloc_new w _
theorem Bxs.put {w:World} {b:Nat} {t:TypeId} {l:List Value} (h:Bxs w b t l) (i:Nat) (v:Value):Bxs (w.setCell ⟨b,i,none⟩ v) b t (l.set i v):=by
 have h1:=heap_setCell_same w b i l.toArray t v h;rw[List.setIfInBounds_toArray] at h1;exact h1
theorem Bxs.bx {w:World} {b:Nat} {t:TypeId} {x y:Value} (h:Bxs w b t [x,y]):Bx w b t x y:=h
abbrev fracV (s1:Bool) (a1:Option Addr) (n1 c1:Nat) (s2:Bool) (a2:Option Addr) (n2 c2:Nat):Value:=.agg #[.bool s1,.slice a1 n1 c1,.bool s2,.slice a2 n2 c2]
end Go.Proofs.YtgkkbkoiaccmfaaGreatDoor.Limb
namespace Go.Proofs.YtgkkbkoiaccmfaaGreatDoor.Limb
open Go.RowKit Go.Sort Go.ChangeShapes Go.WideShapes Go.ChangeAt
theorem cellsFrac:Tryz.prog.cellsOf 28=4:=by kernel_rfl
theorem open_numT {H:Type} {enc:TypeId × Value→H} {W:World} {sp:Nat→Bool} {hd:Bool} {fuel:Nat} {l:List Value} {x:DataW H × List MemPlace}
  (hf:DataW.trod enc Tryz.prog W 0 sp hd fuel 26 l=some x):∃ s a n c o,l=[.bool s,.slice a n c]∧Rd W a n o∧n≤c:=by
 obtain⟨xs,m,_,_,hlen,hxl,hfld⟩:=DataW.trod_struct Tryz.underlying26 hf;have hlen:l.length=2:=hlen.trans cellsNum
 obtain⟨x0,x1,rfl⟩:∃ x0 x1,l=[x0,x1]:=by
  match l,hlen with
  | [x0,x1],_=>exact⟨x0,x1,rfl⟩
 have h0:DataW.trod enc Tryz.prog W 0 sp hd m 4 (([x0,x1].drop 0).take (Tryz.prog.cellsOf 4))=xs[0]?:=hfld 0 _ rfl;have h1:DataW.trod enc Tryz.prog W 0 sp hd m 24 (([x0,x1].drop 1).take (Tryz.prog.cellsOf 24))=xs[1]?:=hfld 1 _ rfl;have hx:xs.length=2:=hxl;rw[List.getElem?_eq_getElem (by omega)] at h0;rw[List.getElem?_eq_getElem (by omega)] at h1;rw[cellsBool] at h0;rw[cellsList] at h1;obtain⟨s,e0,_⟩:=DataW.trod_bool Tryz.underlying4 h0;obtain⟨a,n,c,o,e1,hr,hl⟩:=open_list (v:=x1) h1
 have e0:x0=.bool s:=by
  have:[x0]=[Value.bool s]:=e0
  simpa using this
 exact⟨s,a,n,c,o,by rw[e0,e1],hr,hl⟩
theorem open_fracT {H:Type} {enc:TypeId × Value→H} {W:World} {sp:Nat→Bool} {hd:Bool} {fuel:Nat} {l:List Value} {x:DataW H × List MemPlace}
  (hf:DataW.trod enc Tryz.prog W 0 sp hd fuel 28 l=some x):∃ s1 a1 n1 c1 o1 s2 a2 n2 c2 o2,l=[.bool s1,.slice a1 n1 c1,.bool s2,.slice a2 n2 c2]∧Rd W a1 n1 o1∧n1≤c1∧Rd W a2 n2 o2∧n2≤c2:=by
 obtain⟨xs,m,_,_,hlen,hxl,hfld⟩:=DataW.trod_struct Tryz.underlying28 hf;have hlen:l.length=4:=hlen.trans cellsFrac
 obtain⟨x0,x1,x2,x3,rfl⟩:∃ x0 x1 x2 x3,l=[x0,x1,x2,x3]:=by
  match l,hlen with
  | [x0,x1,x2,x3],_=>exact⟨x0,x1,x2,x3,rfl⟩
 have h0:DataW.trod enc Tryz.prog W 0 sp hd m 26 (([x0,x1,x2,x3].drop 0).take (Tryz.prog.cellsOf 26))=xs[0]?:=hfld 0 _ rfl;have h1:DataW.trod enc Tryz.prog W 0 sp hd m 26 (([x0,x1,x2,x3].drop 2).take (Tryz.prog.cellsOf 26))=xs[1]?:=hfld 1 _ rfl;have hx:xs.length=2:=hxl;rw[List.getElem?_eq_getElem (by omega)] at h0;rw[List.getElem?_eq_getElem (by omega)] at h1;rw[cellsNum] at h0 h1;obtain⟨s1,a1,n1,c1,o1,e1,r1,l1⟩:=open_numT h0;obtain⟨s2,a2,n2,c2,o2,e2,r2,l2⟩:=open_numT h1;have e1:[x0,x1]=[.bool s1,.slice a1 n1 c1]:=e1;have e2:[x2,x3]=[.bool s2,.slice a2 n2 c2]:=e2;simp only[List.cons.injEq,and_true] at e1 e2;exact⟨s1,a1,n1,c1,o1,s2,a2,n2,c2,o2,by rw[e1.1,e1.2,e2.1,e2.2],r1,l1,r2,l2⟩
end Go.Proofs.YtgkkbkoiaccmfaaGreatDoor.Limb
namespace Go.Proofs.YtgkkbkoiaccmfaaGreatDoor.Limb
open Go.RowKit Go.Sort Go.Fresh
open Classical in
theorem rgcd_any (s1:Bool) (a1:Option Addr) (n1 c1:Nat) (o1:Nat→Int) (s2:Bool) (a2:Option Addr) (n2 c2:Nat) (o2:Nat→Int) (w:World)
  (h1:Rd w a1 n1 o1) (hn1:n1≤10000000) (hc1:n1≤c1) (h2:Rd w a2 n2 o2) (hn2:n2≤10000000) (hc2:n2≤c2) :
  Calls Tryz.prog 142 #[numV s1 a1 n1 c1,numV s2 a2 n2 c2] w (ResF w (Int.gcd (valN s1 n1 o1) (valN s2 n2 o2):Nat)):=by
 obtain⟨x1,d1,r1,l1,m1,O1⟩:=fit_any s1 a1 n1 c1 o1 w h1 (by omega) hc1;obtain⟨x2,d2,r2,l2,m2,O2⟩:=fit_any s2 a2 n2 c2 o2 w h2 (by omega) hc2
 generalize valN s1 n1 o1=z1 at r1 l1 m1 O1 ⊢
 generalize valN s2 n2 o2=z2 at r2 l2 m2 O2 ⊢
 have HR:=qh (And.intro r1 r2);have HLE:=qh (show lenB z1.natAbs≤10000000∧lenB z2.natAbs≤10000000 by omega);have HO1:=qh O1;have HO2:=qh O2;obtain⟨G,hG⟩:∃ G:Nat,G=Int.gcd z1 z2:=⟨_,rfl⟩;rw[← hG];have HGC:=qh hG;have B1:=(((Bx.new w 26 (.bool s1) (.slice a1 n1 c1)).alloc (.cells #[.bool s2,.slice a2 n2 c2] 26)).alloc (.cells #[.bool false,.slice none 0 0] 26));have B2:=((Bx.new2 w (.cells #[.bool s1,.slice a1 n1 c1] 26) 26 (.bool s2) (.slice a2 n2 c2)).alloc (.cells #[.bool false,.slice none 0 0] 26));have B3:=(Bx.new3 w (.cells #[.bool s1,.slice a1 n1 c1] 26) (.cells #[.bool s2,.slice a2 n2 c2] 26) 26 (.bool false) (.slice none 0 0));clear O1 O2 r1 r2 l1 l2 m1 m2 h1 h2 hG;go_enter Tryz.func142,Tryz.ntmps142
 go_upto_region 1 with (fail)
 obtain⟨W,hW⟩:∃ W,W=(((w.alloc (.cells #[.bool s1,.slice a1 n1 c1] 26)).alloc (.cells #[.bool s2,.slice a2 n2 c2] 26)).alloc (.cells #[.bool false,.slice none 0 0] 26)):=⟨_,rfl⟩;have G1:=qh (((Below.refl _ _).alloc (by go_size) _ |>.alloc (by go_size) _ |>.alloc (by go_size) _):Below w.heap.size w (((w.alloc (.cells #[.bool s1,.slice a1 n1 c1] 26)).alloc (.cells #[.bool s2,.slice a2 n2 c2] 26)).alloc (.cells #[.bool false,.slice none 0 0] 26)))
 have hWs:w.heap.size+3=W.heap.size:=by rw[hW];simp
 rw[← hW] at B1 B2 B3 G1;rw[show(((w.alloc (.cells #[.bool s1,.slice a1 n1 c1] 26)).alloc (.cells #[.bool s2,.slice a2 n2 c2] 26)).alloc (.cells #[.bool false,.slice none 0 0] 26))=W from hW.symm];have HB1:=qh B1;have HB2:=qh B2;have HB3:=qh B3;have HWS:=qh hWs;clear hW B1 B2 B3 hWs;obtain⟨b10,b11,b12,b13⟩:=HB1.out.all;go_wp2_with fail
 refine(HO1.out _ G1.out).mono ?_;rintro e w1 ⟨rfl,hb1⟩;have TW:=qh (twin_any (decide (z1<0)) x1 (lenB z1.natAbs) d1 (dgi z1.natAbs) w1 (HR.out.1.below (G1.out.trans (hb1.mono G1.out.size))) (by have:=HLE.out;omega));have GB:=qh hb1;clear hb1 HO1;go_wp2_with fail
 refine TW.out.mono ?_;rintro e w2 ⟨t1,e1,rfl,ho,-,hb2⟩;have HT1:=qh (ho.mono GB.out.size);have GB:=qk GB hb2;have M1:=HB1.out.below GB.out HB1.out.lt;clear ho hb2 TW b10 b11 b12 b13;obtain⟨b10,b11,b12,b13⟩:=M1.all;clear M1
 go_upto_region 2 with (fail)
 obtain⟨V,hV⟩:∃ V,V=((w2.setCell ⟨w.heap.size,0,none⟩ (.bool (decide (z1<0)))).setCell ⟨w.heap.size,1,none⟩ (.slice t1 (lenB z1.natAbs) e1)):=⟨_,rfl⟩;have hws:=HWS.out;have HV1:=qh (show Bx V w.heap.size 26 (.bool (decide (z1<0))) (.slice t1 (lenB z1.natAbs) e1) by rw[hV];exact(HB1.out.below GB.out HB1.out.lt).set _ _);have HV2:=qh (show Bx V (w.heap.size+1) 26 (.bool s2) (.slice a2 n2 c2) by rw[hV];exact((HB2.out.below GB.out HB2.out.lt).other (by dsimp only;omega) _).other (by dsimp only;omega) _);have HV3:=qh (show Bx V (w.heap.size+1+1) 26 (.bool false) (.slice none 0 0) by rw[hV];exact((HB3.out.below GB.out HB3.out.lt).other (by dsimp only;omega) _).other (by dsimp only;omega) _);have HVT:=qh (show Own 160 V W.heap.size t1 (lenB z1.natAbs) e1 (dgi z1.natAbs) by rw[hV];exact(HT1.out.other (by dsimp only;omega) _).other (by dsimp only;omega) _);have HVG:=qh (show Below w.heap.size w V by rw[hV];exact((G1.out.trans (GB.out.mono G1.out.size)).setCell (Nat.le_refl _) _).setCell (Nat.le_refl _) _);have HVS:=qh (show W.heap.size≤V.heap.size by rw[hV];simp only[World.size_setCell];exact GB.out.size);rw[show((w2.setCell ⟨w.heap.size,0,none⟩ (.bool (decide (z1<0)))).setCell ⟨w.heap.size,1,none⟩ (.slice t1 (lenB z1.natAbs) e1))=V from hV.symm];clear hV hws b10 b11 b12 b13 HT1 GB HB1 HB2 HB3;obtain⟨b20,b21,b22,b23⟩:=HV2.out.all;go_wp2_with fail
 refine(HO2.out _ HVG.out).mono ?_;rintro e w3 ⟨rfl,hb3⟩;have TW:=qh (twin_any (decide (z2<0)) x2 (lenB z2.natAbs) d2 (dgi z2.natAbs) w3 (HR.out.2.below (HVG.out.trans (hb3.mono HVG.out.size))) (by have:=HLE.out;omega));have GB:=qh hb3;clear hb3 HO2;go_wp2_with fail
 refine TW.out.mono ?_;rintro e w4 ⟨t2,e2,rfl,ho,-,hb4⟩;have HT2:=qh (ho.mono (Nat.le_trans HVS.out GB.out.size));have GB:=qk GB hb4;have M2:=HV2.out.below GB.out HV2.out.lt;have HT1:=qh (HVT.out.below GB.out);have M1:=qh (HV1.out.below GB.out HV1.out.lt);have M3:=qh (HV3.out.below GB.out HV3.out.lt);have HM2:=qh M2;clear ho hb4 TW b20 b21 b22 b23;obtain⟨b20,b21,b22,b23⟩:=M2.all;clear M2;go_wp2_with fail
 have hws:=HWS.out;have K1:=qh ((M1.out.other (a:=⟨w.heap.size+1,0,none⟩) (by dsimp only;omega) (.bool (decide (z2<0)))).other (a:=⟨w.heap.size+1,1,none⟩) (by dsimp only;omega) (.slice t2 (lenB z2.natAbs) e2));have K2:=qh (HM2.out.set (.bool (decide (z2<0))) (.slice t2 (lenB z2.natAbs) e2));have K3:=qh ((M3.out.other (a:=⟨w.heap.size+1,0,none⟩) (by dsimp only;omega) (.bool (decide (z2<0)))).other (a:=⟨w.heap.size+1,1,none⟩) (by dsimp only;omega) (.slice t2 (lenB z2.natAbs) e2));have KT1:=qh ((HT1.out.other (p:=⟨w.heap.size+1,0,none⟩) (by dsimp only;omega) (.bool (decide (z2<0)))).other (p:=⟨w.heap.size+1,1,none⟩) (by dsimp only;omega) (.slice t2 (lenB z2.natAbs) e2));have KT2:=qh ((HT2.out.other (p:=⟨w.heap.size+1,0,none⟩) (by dsimp only;omega) (.bool (decide (z2<0)))).other (p:=⟨w.heap.size+1,1,none⟩) (by dsimp only;omega) (.slice t2 (lenB z2.natAbs) e2));have KG:=qh (((HVG.out.trans (GB.out.mono HVG.out.size)).setCell (p:=⟨w.heap.size+1,0,none⟩) (by dsimp only;omega) (.bool (decide (z2<0)))).setCell (p:=⟨w.heap.size+1,1,none⟩) (by dsimp only;omega) (.slice t2 (lenB z2.natAbs) e2));clear hws b20 b21 b22 b23 HT1 HT2 M1 M3 HM2 HV1 HV2 HV3 HVT HVG HVS GB
 go_loopw [] (fun wr=>∃ (x y:Int) (ax ay:Option Addr) (dx dy:Nat),Int.gcd x y=G∧(lenB x.natAbs≤10000000∧lenB y.natAbs≤10000000)∧Own 160 wr W.heap.size ax (lenB x.natAbs) dx (dgi x.natAbs)∧Own 160 wr W.heap.size ay (lenB y.natAbs) dy (dgi y.natAbs) ∧
   Bx wr w.heap.size 26 (.bool (decide (x<0))) (.slice ax (lenB x.natAbs) dx)∧Bx wr (w.heap.size+1) 26 (.bool (decide (y<0))) (.slice ay (lenB y.natAbs) dy)∧Bx wr (w.heap.size+1+1) 26 (.bool false) (.slice none 0 0)∧Below w.heap.size w wr) (fun wr=>gmeas wr (w.heap.size+1))
 case atStart=>exact⟨z1,z2,t1,t2,e1,e2,HGC.out.symm,HLE.out,KT1.out,KT2.out,K1.out,K2.out,K3.out,KG.out⟩
 case round =>
  obtain⟨x,y,ax,ay,dx,dy,hg,hle,hx,hy,hB1,hB2,hB3,hb⟩:=hrel;obtain⟨wo,rfl⟩:∃ wo:World,wo=wr:=⟨_,rfl⟩;have HX:=qh hx;have HY:=qh hy;have HG:=qh hg;have HB:=qh hb;have HL:=qh hle;have HB1:=qh hB1;have HB2:=qh hB2;have HB3:=qh hB3;have HM0:=qh (gmeas_eq hB2 hy.rd);obtain⟨b10,b11,b12,b13⟩:=hB1.all;obtain⟨b20,b21,b22,b23⟩:=hB2.all;obtain⟨b30,b31,b32,b33⟩:=hB3.all;clear hx hy hg hb hB1 hB2 hB3 hle;obtain⟨Ly,hLy⟩:∃ Ly,Ly=lenB y.natAbs:=⟨_,rfl⟩;rw[← hLy] at b21;have HLY:=qh hLy
  have hsy:Ly≤10000000:=by rw[hLy];exact HL.out.2
  clear hLy
  by_cases hy0:Ly=0
  ·subst hy0;have NU:=qh (num_own false false ax (lenB x.natAbs) dx x.natAbs W.heap.size (dgi x.natAbs) wo HX.out (dgi_Dig _ _) (by have:=HL.out;omega) (sumB_dgi _) rfl)
   have hy1:y=0:=by have:=lenB_eq_zero.1 HLY.out.symm;omega
   have hG:G=x.natAbs:=by rw[← HG.out,hy1,Int.gcd_zero_right]
   have HGX:=qh hG;clear hG hy1;go_wp2_with fail
   refine NU.out.mono ?_;rintro e w5 ⟨rfl,hb5⟩;have M3:=HB3.out.below hb5 HB3.out.lt;have HM3:=qh M3;have HO5:=qh (HX.out.below hb5);have HB5:=qh (HB.out.trans (hb5.mono HB.out.size));clear hb5 NU b10 b11 b12 b13 b20 b21 b22 b23 b30 b31 b32 b33;obtain⟨b30,b31,b32,b33⟩:=M3.all;clear M3;go_wp2_with fail
   have hws:=HWS.out;have HH:=qh (HM3.out.set (.bool false) (.slice ax (lenB x.natAbs) dx));refine bodyPost_ret (results_cell rfl _ _ _ _ _ _ _ rfl HH.out Tryz.underlying26 rfl (by kernel_rfl)) rfl ⟨ax,dx,?_,?_,?_⟩
   ·rw[Int.natAbs_natCast,HGX.out,decide_eq_false (show ¬((x.natAbs:Nat):Int)<0 by omega)]
   ·rw[Int.natAbs_natCast,HGX.out];exact((HO5.out.other (by dsimp only;omega) _).other (by dsimp only;omega) _).mono (by omega)
   ·exact(HB5.out.setCell (by dsimp only;omega) _).setCell (by dsimp only;omega) _
  ·have hy1:¬y=0:=fun h=>hy0 (by rw[HLY.out,h];exact lenB_zero)
   have hpos:0<Ly:=by omega
   have HY1:=qh hy1;have DV:=qh (rdiv_ok x y ax ay dx dy wo HX.out.rd HL.out.1 HX.out.le HY.out.rd HL.out.2 HY.out.le hy1);rw[← HLY.out] at DV;clear hy1;go_wp2_with fail
   refine DV.out.mono ?_;rintro e w4 ⟨aq,cq,ar,cr,rfl,-,hor,hb4⟩;obtain⟨R,hR⟩:∃ R,R=x%y:=⟨_,rfl⟩;obtain⟨Q,hQ⟩:∃ Q,Q=x/y:=⟨_,rfl⟩;rw[← hR] at hor ⊢;rw[← hQ];have hws:=HWS.out
   have hwo:W.heap.size≤wo.heap.size:=by have:=HB3.out.lt;omega
   have HOR:=qh (hor.mono hwo);have HRX:=qh hR;have HB4:=qh hb4;have HRS:=qh (show R.natAbs<y.natAbs by have h1:=Int.emod_nonneg x HY1.out;have h2:=Int.emod_lt x HY1.out;omega);have M1:=HB1.out.below hb4 HB1.out.lt;have M2:=HB2.out.below hb4 HB2.out.lt;have HM:=qh (And.intro M1 (And.intro M2 (HB3.out.below hb4 HB3.out.lt)));clear hor hR hQ hb4 DV hws hwo b10 b11 b12 b13 b20 b21 b22 b23 b30 b31 b32 b33
   go_upto_region 5 with (fail)
   obtain⟨U,hU⟩:∃ U,U=(w4.alloc (.cells #[.bool (decide (Q<0)),.slice aq (lenB Q.natAbs) cq] 26)).alloc (.cells #[.bool (decide (R<0)),.slice ar (lenB R.natAbs) cr] 26):=⟨_,rfl⟩
   have hbU:Below w4.heap.size w4 U:=by rw[hU];exact((Below.refl _ _).alloc (Nat.le_refl _) _).alloc (by simp) _
   have HRB:=qh (show Bx U (w4.heap.size+1) 26 (.bool (decide (R<0))) (.slice ar (lenB R.natAbs) cr) by rw[hU];exact Bx.new2 w4 _ _ _ _);rw[show(w4.alloc (.cells #[.bool (decide (Q<0)),.slice aq (lenB Q.natAbs) cq] 26)).alloc (.cells #[.bool (decide (R<0)),.slice ar (lenB R.natAbs) cr] 26)=U from hU.symm];have M1:=HM.out.1.below hbU HM.out.1.lt;have M2:=HM.out.2.1.below hbU HM.out.2.1.lt;have M3:=HM.out.2.2.below hbU HM.out.2.2.lt;have HMU:=qh (And.intro M1 (And.intro M2 M3));have HYU:=qh ((HY.out.below HB4.out).below hbU);have HORU:=qh (HOR.out.below hbU);have HBU:=qh (HB.out.trans ((HB4.out.trans (hbU.mono HB4.out.size)).mono HB.out.size));obtain⟨br,hbr⟩:∃ br,br=w4.heap.size+1:=⟨_,rfl⟩
   have hbr2:w.heap.size+3<br:=by have h1:=HB3.out.lt;have h2:=HB4.out.size;omega
   rw[← hbr] at HRB ⊢;clear hU hbU M3 HM HOR;obtain⟨b10,b11,b12,b13⟩:=M1.all;obtain⟨b20,b21,b22,b23⟩:=M2.all;obtain⟨b30,b31,b32,b33⟩:=HRB.out.all;clear M1 M2
   have ne1:¬br=w.heap.size:=by omega
   have ne2:¬br=w.heap.size+1:=by omega
   have ne3:¬w.heap.size=br:=by omega
   have ne4:¬w.heap.size+1=br:=by omega
   clear hbr hbr2;go_wp2_with fail
   clear ne1 ne2 ne3 ne4;have hws:=HWS.out;have m1:=(((HMU.out.1.set (.bool (decide (y<0))) (.slice ay (lenB y.natAbs) dy)).other (a:=⟨w.heap.size+1,0,none⟩) (by dsimp only;omega) (.bool (decide (R<0)))).other (a:=⟨w.heap.size+1,1,none⟩) (by dsimp only;omega) (.slice ar (lenB R.natAbs) cr));have m2:=(((HMU.out.2.1.other (a:=⟨w.heap.size,0,none⟩) (by dsimp only;omega) (.bool (decide (y<0)))).other (a:=⟨w.heap.size,1,none⟩) (by dsimp only;omega) (.slice ay (lenB y.natAbs) dy)).set (.bool (decide (R<0))) (.slice ar (lenB R.natAbs) cr));have m3:=((((HMU.out.2.2.other (a:=⟨w.heap.size,0,none⟩) (by dsimp only;omega) (.bool (decide (y<0)))).other (a:=⟨w.heap.size,1,none⟩) (by dsimp only;omega) (.slice ay (lenB y.natAbs) dy)).other (a:=⟨w.heap.size+1,0,none⟩) (by dsimp only;omega) (.bool (decide (R<0)))).other (a:=⟨w.heap.size+1,1,none⟩) (by dsimp only;omega) (.slice ar (lenB R.natAbs) cr));have g1:=((((HBU.out.setCell (p:=⟨w.heap.size,0,none⟩) (Nat.le_refl _) (.bool (decide (y<0)))).setCell (p:=⟨w.heap.size,1,none⟩) (Nat.le_refl _) (.slice ay (lenB y.natAbs) dy)).setCell (p:=⟨w.heap.size+1,0,none⟩) (by dsimp only;omega) (.bool (decide (R<0)))).setCell (p:=⟨w.heap.size+1,1,none⟩) (by dsimp only;omega) (.slice ar (lenB R.natAbs) cr));have n1:=((((HYU.out.other (p:=⟨w.heap.size,0,none⟩) (by dsimp only;omega) (.bool (decide (y<0)))).other (p:=⟨w.heap.size,1,none⟩) (by dsimp only;omega) (.slice ay (lenB y.natAbs) dy)).other (p:=⟨w.heap.size+1,0,none⟩) (by dsimp only;omega) (.bool (decide (R<0)))).other (p:=⟨w.heap.size+1,1,none⟩) (by dsimp only;omega) (.slice ar (lenB R.natAbs) cr))
   have n2:=((((HORU.out.other (p:=⟨w.heap.size,0,none⟩) (by dsimp only;omega) (.bool (decide (y<0)))).other (p:=⟨w.heap.size,1,none⟩) (by dsimp only;omega) (.slice ay (lenB y.natAbs) dy)).other (p:=⟨w.heap.size+1,0,none⟩) (by dsimp only;omega) (.bool (decide (R<0)))).other (p:=⟨w.heap.size+1,1,none⟩) (by dsimp only;omega) (.slice ar (lenB R.natAbs) cr));have P1:=qh m1;have P2:=qh m2;have P3:=qh m3;have PG:=qh g1;have PN1:=qh n1;have PN2:=qh n2;clear m1 m2 m3 g1 n1 n2 b10 b11 b12 b13 b20 b21 b22 b23 b30 b31 b32 b33 hws;go_roundw
   case rel =>
    refine⟨y,R,ay,ar,dy,cr,?_,⟨HL.out.2,Nat.le_trans (lenB_mono (Nat.le_of_lt HRS.out)) HL.out.2⟩,PN1.out,PN2.out,P1.out,P2.out,P3.out,PG.out⟩;rw[HRX.out,← gcd_step];exact HG.out
   case measure =>
    rw[HM0.out];have h:=gmeas_eq (M:=R.natAbs) P2.out PN2.out.rd;exact Nat.lt_of_le_of_lt (Nat.le_of_eq h) HRS.out
theorem gcd_len (x y:Int):lenB (Int.gcd x y)≤lenB x.natAbs+lenB y.natAbs:=by
 by_cases hx:x=0
 ·subst hx;rw[Int.gcd_zero_left];have:=lenB_zero;omega
 ·have h:Int.gcd x y ∣ x.natAbs:=Int.natCast_dvd_natCast.1 (by rw[Int.dvd_natAbs];exact Int.gcd_dvd_left x y);have:=lenB_mono (Nat.le_of_dvd (by omega) h);omega
theorem cmp_one (z:Int):decide (cmpZ z 1=0)=decide (z=1):=by
 rcases Int.lt_trichotomy z 1 with h | h | h
 ·rw[cmpZ_lt h];exact decide_eq_decide.2 (by omega)
 ·rw[cmpZ_eq h];exact decide_eq_decide.2 (by omega)
 ·rw[cmpZ_gt h];exact decide_eq_decide.2 (by omega)
theorem unit_any (s:Bool) (a:Option Addr) (n c:Nat) (o:Nat→Int) (w:World) (h:Rd w a n o) (hn:n≤10000000) (hc:n≤c) :
  Calls Tryz.prog 206 #[numV s a n c] w fun e w'=>e=.returned (.bool (decide (valN s n o=1)))∧Below w.heap.size w w':=by
 obtain⟨z,hz⟩:∃ z,z=valN s n o:=⟨_,rfl⟩;obtain⟨one,hone⟩:∃ one:Int,one=1:=⟨_,rfl⟩;have HB:=qh (Bx.new w 26 (.bool s) (.slice a n c));obtain⟨W,hW⟩:∃ W,W=w.alloc (.cells #[.bool s,.slice a n c] 26):=⟨_,rfl⟩
 have hbW:Below w.heap.size w W:=by rw[hW];exact(Below.refl _ _).alloc (Nat.le_refl _) _
 rw[← hW] at HB;have OF:=qh (show ∀ w',Calls Tryz.prog 133 #[.int .i64 1] w' (ResN w' one) from fun w'=>by rw[hone];exact of64_any 1 w' (by omega) (by omega));have HL1:=qh (show lenB one.natAbs≤1 by rw[hone];exact lenB_le (by decide));have CM:=qh (fun (w':World) (hb:Below W.heap.size W w') (x:Option Addr) (ho:Own 160 w' W.heap.size x (lenB one.natAbs) (lenB one.natAbs) (dgi one.natAbs))=>cmp_any s a n c o (decide (one<0)) x (lenB one.natAbs) (lenB one.natAbs) (dgi one.natAbs) w' (h.below (hbW.trans (hb.mono hbW.size))) (by omega) hc ho.rd (by have:=HL1.out;omega) (Nat.le_refl _));rw[canon_val,← hz] at CM;obtain⟨cz,hcz⟩:∃ cz,cz=cmpZ z one:=⟨_,rfl⟩;rw[← hcz] at CM
 have hres:decide (cz=0)=decide (z=1):=by rw[hcz,hone];exact cmp_one z
 rw[← hz];have HRES:=qh hres;have HBW:=qh hbW;have HW:=qh hW;clear hz hone hcz hres hbW hW h;go_enter Tryz.func206,Tryz.ntmps206
 go_upto_region 1 with (fail)
 rw[show w.alloc (.cells #[.bool s,.slice a n c] 26)=W from HW.out.symm];clear HW
 refine wp_region_fresh 2 (spOf [(1,Sp.made (fun x:Option Addr=>numV (decide (one<0)) x (lenB one.natAbs) (lenB one.natAbs)) (fun x w'=>Own 160 w' W.heap.size x (lenB one.natAbs) (lenB one.natAbs) (dgi one.natAbs)))]) (fun w'=>Below W.heap.size W w') (by kernel_rfl) (by kernel_rfl)
  (spOf_cons (Sp.made_keeps fun x w w' h hb=>h.below hb) spOf_nil) (fun _ _ h hb=>h.trans (hb.mono h.size)) ((Below.refl _ _).drew) ?_
 simp only[List.take_succ_cons,List.take_zero,List.drop_succ_cons,List.drop_zero]
 (refine wpF_reads rfl rfl ?_ (fun w' hw'=>?_) ?_;rotate_left;· (have hb':=Has.world hw';(obtain⟨x0,x1,x2,x3⟩:=(HB.out.below hb' HB.out.lt).all);clear hw';go_simp;try rfl))
 conv=>arg 9;simp only[Act.put,zq0,zq1,zq2]
 (refine wpF_spec rfl rfl (fun w' hw'=>?_) ?_;· (have hb':=Has.world hw';go_simp;((refine(OF.out w').mono ?_;rintro e w'' ⟨a,rfl,ho,-,hb⟩;exact⟨_,rfl,⟨⟨a,rfl⟩,⟨a,rfl,ho.mono hb'.size⟩⟩,hb⟩))))
 rintro _ ⟨x,rfl⟩
 conv=>arg 9;simp only[Act.put,zq0,zq1,zq2]
 refine wpF_nil (fun w1 hb1 hF=>?_);have C1:=qh (CM.out w1 hb1 x (own_num1 (T:=160) (b:=W.heap.size) (s:=decide (one<0)) (L:=lenB one.natAbs) (o:=dgi one.natAbs) (a:=x) (hF 1)));have HG:=qh (HBW.out.trans (hb1.mono HBW.out.size));clear hF hb1 CM OF;go_wp2_with fail
 refine C1.out.mono ?_;rintro e w2 ⟨rfl,hb2⟩;have HG2:=qh (HG.out.trans (hb2.mono HG.out.size));clear hb2 C1;go_wp2_with fail
 go_ret;exact⟨by rw[← HRES.out];first | rfl | (congr 1;simp),HG2.out⟩
theorem frac_box {W:World} {b:Nat} {s1:Bool} {a1:Option Addr} {n1 c1:Nat} {s2:Bool} {a2:Option Addr} {n2 c2:Nat} (h:Bxs W b 28 [.bool s1,.slice a1 n1 c1,.bool s2,.slice a2 n2 c2]) :
  W.cell? ⟨b,0,none⟩=some (.bool s1)∧W.cell? ⟨b,1,none⟩=some (.slice a1 n1 c1)∧W.cell? ⟨b,2,none⟩=some (.bool s2)∧W.cell? ⟨b,3,none⟩=some (.slice a2 n2 c2)∧(∀ i,W.frozen? ⟨b,i,none⟩=false)∧b<W.heap.size :=
 ⟨h.cell rfl,h.cell rfl,h.cell rfl,h.cell rfl,h.fz,h.lt⟩
open Classical in
theorem okF_dec (s1:Bool) (n1:Nat) (o1:Nat→Int) (s2:Bool) (n2:Nat) (o2:Nat→Int) (h1:okN s1 n1 o1) (h2:okN s2 n2 o2) (h3:0<valN s2 n2 o2) :
  decide (okF s1 n1 o1 s2 n2 o2)=decide (((Int.gcd (valN s1 n1 o1) (valN s2 n2 o2):Nat):Int)=1):=by
 refine decide_eq_decide.2 ⟨fun h=>by rw[h.2.2.2];rfl,fun h=>⟨h1,h2,h3,by omega⟩⟩
open Classical in
theorem fcheck_any (s1:Bool) (a1:Option Addr) (n1 c1:Nat) (o1:Nat→Int) (s2:Bool) (a2:Option Addr) (n2 c2:Nat) (o2:Nat→Int) (w:World)
  (h1:Rd w a1 n1 o1) (hn1:n1≤5000000) (hc1:n1≤c1) (h2:Rd w a2 n2 o2) (hn2:n2≤5000000) (hc2:n2≤c2) :
  Calls Tryz.prog 124 #[fracV s1 a1 n1 c1 s2 a2 n2 c2] w fun e w'=>e=.returned (.bool (decide (okF s1 n1 o1 s2 n2 o2)))∧Below w.heap.size w w':=by
 have HB:=qh (Bxs.new w 28 [.bool s1,.slice a1 n1 c1,.bool s2,.slice a2 n2 c2]);obtain⟨W,hW⟩:∃ W,W=w.alloc (.cells #[.bool s1,.slice a1 n1 c1,.bool s2,.slice a2 n2 c2] 28):=⟨_,rfl⟩;have HBW:=qh (show Below w.heap.size w W by rw[hW];exact(Below.refl _ _).alloc (Nat.le_refl _) _);rw[show w.alloc (.cells (List.toArray [.bool s1,.slice a1 n1 c1,.bool s2,.slice a2 n2 c2]) 28)=W from hW.symm] at HB;have HW:=qh hW;have GB:=qh (Below.refl W.heap.size W);have CK1:=qh (fun (w':World) (hb:Below W.heap.size W w')=>check_any s1 a1 n1 c1 o1 w' (h1.below (HBW.out.trans (hb.mono HBW.out.size))) (by omega));have CK2:=qh (fun (w':World) (hb:Below W.heap.size W w')=>check_any s2 a2 n2 c2 o2 w' (h2.below (HBW.out.trans (hb.mono HBW.out.size))) (by omega));have SG:=qh (fun (w':World) (hb:Below W.heap.size W w')=>sign_any s2 a2 n2 c2 o2 w' (h2.below (HBW.out.trans (hb.mono HBW.out.size))) (by omega) hc2);have GC:=qh (fun (w':World) (hb:Below W.heap.size W w')=>gcd_any s1 a1 n1 c1 o1 s2 a2 n2 c2 o2 w' (h1.below (HBW.out.trans (hb.mono HBW.out.size))) (by omega) hc1 (h2.below (HBW.out.trans (hb.mono HBW.out.size))) (by omega) hc2)
 have HGL:=qh (show lenB (Int.gcd (valN s1 n1 o1) (valN s2 n2 o2))≤10000000 from by
  obtain⟨_,_,_,l1,_⟩:=of_any s1 a1 n1 c1 o1 w h1 (by omega) hc1;obtain⟨_,_,_,l2,_⟩:=of_any s2 a2 n2 c2 o2 w h2 (by omega) hc2;have:=gcd_len (valN s1 n1 o1) (valN s2 n2 o2)
  omega)
 clear h1 h2 hW
 by_cases k1:okN s1 n1 o1
 ·rw[decide_eq_true k1] at CK1
  by_cases k2:okN s2 n2 o2
  ·rw[decide_eq_true k2] at CK2;obtain⟨cs,hcs⟩:∃ cs,cs=cmpZ (valN s2 n2 o2) 0:=⟨_,rfl⟩;rw[← hcs] at SG
   by_cases k3:0<valN s2 n2 o2
   ·have hc3:decide (0<cs)=true:=by rw[hcs,cmpZ_gt k3];rfl
    obtain⟨G,hG⟩:∃ G:Int,G=((Int.gcd (valN s1 n1 o1) (valN s2 n2 o2):Nat):Int):=⟨_,rfl⟩;rw[← hG] at GC;have HGN:=qh (show lenB G.natAbs≤10000000 by rw[hG,Int.natAbs_natCast];exact HGL.out);have RES:=qh (okF_dec s1 n1 o1 s2 n2 o2 k1 k2 k3);rw[← hG] at RES;clear hG hcs k1 k2 k3;go_enter Tryz.func124,Tryz.ntmps124
    go_upto_region 1 with (fail)
    rw[show w.alloc (.cells #[.bool s1,.slice a1 n1 c1,.bool s2,.slice a2 n2 c2] 28)=W from HW.out.symm];obtain⟨x0,x1,x2,x3,x4,x5⟩:=frac_box HB.out;go_wp2_with fail
    refine(CK1.out _ GB.out).mono ?_;rintro e w' ⟨rfl,hb⟩;have GB:=qk GB hb;clear hb x0 x1 x2 x3 x4 x5;obtain⟨x0,x1,x2,x3,x4,x5⟩:=frac_box (HB.out.below GB.out HB.out.lt);obtain⟨w1,rfl⟩:∃ w1,w1=w':=⟨_,rfl⟩;go_wp2_with fail
    refine(CK2.out _ GB.out).mono ?_;rintro e w' ⟨rfl,hb⟩;have GB:=qk GB hb;clear hb x0 x1 x2 x3 x4 x5;obtain⟨x0,x1,x2,x3,x4,x5⟩:=frac_box (HB.out.below GB.out HB.out.lt);obtain⟨w1,rfl⟩:∃ w1,w1=w':=⟨_,rfl⟩;go_wp2_with fail
    refine(SG.out _ GB.out).mono ?_;rintro e w' ⟨rfl,hb⟩;have GB:=qk GB hb;clear hb x0 x1 x2 x3 x4 x5;obtain⟨x0,x1,x2,x3,x4,x5⟩:=frac_box (HB.out.below GB.out HB.out.lt);obtain⟨w1,rfl⟩:∃ w1,w1=w':=⟨_,rfl⟩;go_wp2_with fail
    refine(GC.out _ GB.out).mono ?_;rintro e w' ⟨x,rfl,ho,-,hb⟩;have UN:=qh (unit_any (decide (G<0)) x (lenB G.natAbs) (lenB G.natAbs) (dgi G.natAbs) w' ho.rd HGN.out (Nat.le_refl _));rw[canon_val] at UN;have GB:=qk GB hb;clear hb ho x0 x1 x2 x3 x4 x5;go_wp2_with fail
    refine UN.out.mono ?_;rintro e w2 ⟨rfl,hb⟩;have GB:=qk GB hb;clear hb UN;go_wp2_with fail
    go_ret;exact⟨by rw[RES.out];first | rfl | (congr 1;simp),HBW.out.trans (GB.out.mono HBW.out.size)⟩
   ·have hc3:decide (0<cs)=false:=by
     rw[hcs];refine decide_eq_false ?_
     rcases Int.lt_trichotomy (valN s2 n2 o2) 0 with h | h | h
     ·rw[cmpZ_lt h];omega
     ·rw[cmpZ_eq h];omega
     ·exact absurd h k3
    have RES:=qh (show decide (okF s1 n1 o1 s2 n2 o2)=false from decide_eq_false fun h=>k3 h.2.2.1);clear hcs k1 k2 k3;go_enter Tryz.func124,Tryz.ntmps124
    go_upto_region 1 with (fail)
    rw[show w.alloc (.cells #[.bool s1,.slice a1 n1 c1,.bool s2,.slice a2 n2 c2] 28)=W from HW.out.symm];obtain⟨x0,x1,x2,x3,x4,x5⟩:=frac_box HB.out;go_wp2_with fail
    refine(CK1.out _ GB.out).mono ?_;rintro e w' ⟨rfl,hb⟩;have GB:=qk GB hb;clear hb x0 x1 x2 x3 x4 x5;obtain⟨x0,x1,x2,x3,x4,x5⟩:=frac_box (HB.out.below GB.out HB.out.lt);obtain⟨w1,rfl⟩:∃ w1,w1=w':=⟨_,rfl⟩;go_wp2_with fail
    refine(CK2.out _ GB.out).mono ?_;rintro e w' ⟨rfl,hb⟩;have GB:=qk GB hb;clear hb x0 x1 x2 x3 x4 x5;obtain⟨x0,x1,x2,x3,x4,x5⟩:=frac_box (HB.out.below GB.out HB.out.lt);obtain⟨w1,rfl⟩:∃ w1,w1=w':=⟨_,rfl⟩;go_wp2_with fail
    refine(SG.out _ GB.out).mono ?_;rintro e w' ⟨rfl,hb⟩;have GB:=qk GB hb;clear hb x0 x1 x2 x3 x4 x5;obtain⟨x0,x1,x2,x3,x4,x5⟩:=frac_box (HB.out.below GB.out HB.out.lt);obtain⟨w1,rfl⟩:∃ w1,w1=w':=⟨_,rfl⟩;go_wp2_with fail
    go_ret;exact⟨by rw[RES.out];rfl,HBW.out.trans (GB.out.mono HBW.out.size)⟩
  ·rw[decide_eq_false k2] at CK2;have RES:=qh (show decide (okF s1 n1 o1 s2 n2 o2)=false from decide_eq_false fun h=>k2 h.2.1);clear k1 k2;go_enter Tryz.func124,Tryz.ntmps124
   go_upto_region 1 with (fail)
   rw[show w.alloc (.cells #[.bool s1,.slice a1 n1 c1,.bool s2,.slice a2 n2 c2] 28)=W from HW.out.symm];obtain⟨x0,x1,x2,x3,x4,x5⟩:=frac_box HB.out;go_wp2_with fail
   refine(CK1.out _ GB.out).mono ?_;rintro e w' ⟨rfl,hb⟩;have GB:=qk GB hb;clear hb x0 x1 x2 x3 x4 x5;obtain⟨x0,x1,x2,x3,x4,x5⟩:=frac_box (HB.out.below GB.out HB.out.lt);obtain⟨w1,rfl⟩:∃ w1,w1=w':=⟨_,rfl⟩;go_wp2_with fail
   refine(CK2.out _ GB.out).mono ?_;rintro e w' ⟨rfl,hb⟩;have GB:=qk GB hb;clear hb x0 x1 x2 x3 x4 x5;obtain⟨x0,x1,x2,x3,x4,x5⟩:=frac_box (HB.out.below GB.out HB.out.lt);obtain⟨w1,rfl⟩:∃ w1,w1=w':=⟨_,rfl⟩;go_wp2_with fail
   go_ret;exact⟨by rw[RES.out];rfl,HBW.out.trans (GB.out.mono HBW.out.size)⟩
 ·rw[decide_eq_false k1] at CK1;have RES:=qh (show decide (okF s1 n1 o1 s2 n2 o2)=false from decide_eq_false fun h=>k1 h.1);clear k1;go_enter Tryz.func124,Tryz.ntmps124
  go_upto_region 1 with (fail)
  rw[show w.alloc (.cells #[.bool s1,.slice a1 n1 c1,.bool s2,.slice a2 n2 c2] 28)=W from HW.out.symm];obtain⟨x0,x1,x2,x3,x4,x5⟩:=frac_box HB.out;go_wp2_with fail
  refine(CK1.out _ GB.out).mono ?_;rintro e w' ⟨rfl,hb⟩;have GB:=qk GB hb;clear hb x0 x1 x2 x3 x4 x5;obtain⟨x0,x1,x2,x3,x4,x5⟩:=frac_box (HB.out.below GB.out HB.out.lt);obtain⟨w1,rfl⟩:∃ w1,w1=w':=⟨_,rfl⟩;go_wp2_with fail
  go_ret;exact⟨by rw[RES.out];rfl,HBW.out.trans (GB.out.mono HBW.out.size)⟩
def FracR (w:World) (p q:Int) (e:Ending) (w':World):Prop :=
 ∃ a1 a2,e=.returned (fracV (decide (p<0)) a1 (lenB p.natAbs) (lenB p.natAbs) (decide (q<0)) a2 (lenB q.natAbs) (lenB q.natAbs))∧Own 160 w' w.heap.size a1 (lenB p.natAbs) (lenB p.natAbs) (dgi p.natAbs) ∧
  Own 160 w' w.heap.size a2 (lenB q.natAbs) (lenB q.natAbs) (dgi q.natAbs)∧Apart2 a1 a2∧Below w.heap.size w w'
def FracS (w:World) (B0:Nat) (p q:Int) (e:Ending) (w':World):Prop :=
 ∃ a1 c1 a2 c2,e=.returned (fracV (decide (p<0)) a1 (lenB p.natAbs) c1 (decide (q<0)) a2 (lenB q.natAbs) c2)∧RdS w' B0 w.heap.size a1 (lenB p.natAbs) (dgi p.natAbs)∧lenB p.natAbs≤c1 ∧
  RdS w' B0 w.heap.size a2 (lenB q.natAbs) (dgi q.natAbs)∧lenB q.natAbs≤c2∧Below w.heap.size w w'
theorem RdS.up {w:World} {lo hi hi':Nat} {a:Option Addr} {n:Nat} {o:Nat→Int} (h:RdS w lo hi a n o) (hh:hi'≤hi):RdS w lo hi' a n o:=⟨h.rd,fun h0 p hp=>(h.far h0 p hp).imp id (fun h=>Nat.le_trans hh h)⟩
theorem Own.rdS {T:Nat} {w:World} {base:Nat} {a:Option Addr} {n cap:Nat} {o:Nat→Int} (h:Own T w base a n cap o) (lo hi:Nat) (hh:hi≤base):RdS w lo hi a n o:=⟨h.rd,fun _ p hp=>Or.inr (Nat.le_trans hh (h.blk hp).2.1)⟩
open Classical in
theorem fof_any (n:Int) (w:World) (h1:-9223372036854775808≤n) (h2:n≤9223372036854775807) :
  Calls Tryz.prog 72 #[.int .i64 n] w (FracR w n 1):=by
 obtain⟨one,hone⟩:∃ one:Int,one=1:=⟨_,rfl⟩;have OF1:=qh (fun (w':World)=>of64_any n w' h1 h2);have OF2:=qh (show ∀ w',Calls Tryz.prog 133 #[.int .i64 1] w' (ResN w' one) from fun w'=>by rw[hone];exact of64_any 1 w' (by omega) (by omega));rw[← hone];have HB:=qh (Bxs.new w 28 [.bool false,.slice none 0 0,.bool false,.slice none 0 0]);have HBW:=qh (show Below w.heap.size w (w.alloc (.cells #[.bool false,.slice none 0 0,.bool false,.slice none 0 0] 28)) from(Below.refl _ _).alloc (Nat.le_refl _) _);obtain⟨W,hW⟩:∃ W,W=w.alloc (.cells #[.bool false,.slice none 0 0,.bool false,.slice none 0 0] 28):=⟨_,rfl⟩;rw[show w.alloc (.cells (List.toArray [.bool false,.slice none 0 0,.bool false,.slice none 0 0]) 28)=W from hW.symm] at HB;rw[← hW] at HBW;have HW:=qh hW;clear h1 h2 hone hW;go_enter Tryz.func72,Tryz.ntmps72
 go_upto_region 1 with (fail)
 rw[show w.alloc (.cells #[.bool false,.slice none 0 0,.bool false,.slice none 0 0] 28)=W from HW.out.symm];go_wp2_with fail
 refine(OF1.out _).mono ?_;rintro e w1 ⟨a1,rfl,ho1,-,hb1⟩;have HO1:=qh ho1;have GB:=qh hb1;clear ho1 hb1;go_wp2_with fail
 refine(OF2.out _).mono ?_;rintro e w2 ⟨a2,rfl,ho2,-,hb2⟩
 have HAP:=qh (show Apart2 a1 a2 from fun p q hp hq e=>by
  have h1:=(HO1.out.blk hp).2.2;have h2:=(ho2.blk hq).2.1
  omega)
 have HO1:=qh (HO1.out.below hb2);have HO2:=qh (ho2.mono GB.out.size);have GB:=qk GB hb2;have HB2:=qh (HB.out.below GB.out HB.out.lt);clear ho2 hb2;obtain⟨x0,x1,x2,x3,x4,x5⟩:=frac_box HB2.out;go_wp2_with fail
 have hlt:=HB.out.lt;have hG:=HBW.out.trans (GB.out.mono HBW.out.size);refine bodyPost_ret (results_cell rfl _ _ _ _ _ _ _ rfl ((((HB2.out.put 0 _).put 1 _).put 2 _).put 3 _) Tryz.underlying28 rfl (by kernel_rfl)) rfl ⟨a1,a2,rfl,?_,?_,HAP.out,?_⟩
 ·exact((((HO1.out.other (by dsimp only;omega) _).other (by dsimp only;omega) _).other (by dsimp only;omega) _).other (by dsimp only;omega) _).mono (by omega)
 ·exact((((HO2.out.other (by dsimp only;omega) _).other (by dsimp only;omega) _).other (by dsimp only;omega) _).other (by dsimp only;omega) _).mono (by omega)
 ·exact(((hG.setCell (by dsimp only;omega) _).setCell (by dsimp only;omega) _).setCell (by dsimp only;omega) _).setCell (by dsimp only;omega) _
open Classical in
theorem fof2_ok (s1:Bool) (a1:Option Addr) (n1 c1:Nat) (o1:Nat→Int) (s2:Bool) (a2:Option Addr) (n2 c2:Nat) (o2:Nat→Int) (w:World) (B0:Nat) (hB0:B0≤w.heap.size)
  (h1:Rd w a1 n1 o1) (hn1:n1≤5000000) (hc1:n1≤c1) (f1:0<n1→∀ p,a1=some p→p.block<B0) (h2:Rd w a2 n2 o2) (hn2:n2≤5000000) (hc2:n2≤c2) (f2:0<n2→∀ p,a2=some p→p.block<B0) (hk:okF s1 n1 o1 s2 n2 o2) :
  Calls Tryz.prog 171 #[fracV s1 a1 n1 c1 s2 a2 n2 c2] w (FracS w B0 (valN s1 n1 o1) (valN s2 n2 o2)):=by
 have CK:=qh (fun (w':World) (hb:Below w.heap.size w w')=>fcheck_any s1 a1 n1 c1 o1 s2 a2 n2 c2 o2 w' (h1.below hb) hn1 hc1 (h2.below hb) hn2 hc2);rw[decide_eq_true hk] at CK;obtain⟨t1,t2,t3⟩:=of_facts s1 n1 o1 hk.1 h1.rng;obtain⟨u1,u2,u3⟩:=of_facts s2 n2 o2 hk.2.1 h2.rng
 generalize valN s1 n1 o1=z1 at t1 t2 t3 ⊢
 generalize valN s2 n2 o2=z2 at u1 u2 u3 ⊢
 have HR:=qh (And.intro (And.intro h1 f1) (And.intro h2 f2));have HT:=qh (And.intro (And.intro t1 (And.intro t2 t3)) (And.intro u1 (And.intro u2 u3)));clear hk h1 h2 f1 f2 t1 t2 t3 u1 u2 u3;have HB:=qh ((Bxs.new w 28 [.bool s1,.slice a1 n1 c1,.bool s2,.slice a2 n2 c2]).alloc (.cells #[.bool false,.slice none 0 0,.bool false,.slice none 0 0] 28));have HBR:=qh (Bxs.new (w.alloc (.cells #[.bool s1,.slice a1 n1 c1,.bool s2,.slice a2 n2 c2] 28)) 28 [.bool false,.slice none 0 0,.bool false,.slice none 0 0]);obtain⟨W,hW⟩:∃ W,W=(w.alloc (.cells #[.bool s1,.slice a1 n1 c1,.bool s2,.slice a2 n2 c2] 28)).alloc (.cells #[.bool false,.slice none 0 0,.bool false,.slice none 0 0] 28):=⟨_,rfl⟩;have HBW:=qh (show Below w.heap.size w W by rw[hW];exact((Below.refl _ _).alloc (Nat.le_refl _) _).alloc (by simp) _);rw[show(w.alloc (.cells (List.toArray [.bool s1,.slice a1 n1 c1,.bool s2,.slice a2 n2 c2]) 28)).alloc (.cells #[.bool false,.slice none 0 0,.bool false,.slice none 0 0] 28)=W from hW.symm] at HB;rw[show(w.alloc (.cells #[.bool s1,.slice a1 n1 c1,.bool s2,.slice a2 n2 c2] 28)).alloc (.cells (List.toArray [.bool false,.slice none 0 0,.bool false,.slice none 0 0]) 28)=W from hW.symm,World.size_alloc] at HBR;have HW:=qh hW;clear hW;go_enter Tryz.func171,Tryz.ntmps171
 go_upto_region 1 with (fail)
 rw[show(w.alloc (.cells #[.bool s1,.slice a1 n1 c1,.bool s2,.slice a2 n2 c2] 28)).alloc (.cells #[.bool false,.slice none 0 0,.bool false,.slice none 0 0] 28)=W from HW.out.symm];obtain⟨x0,x1,x2,x3,x4,x5⟩:=frac_box HB.out;go_wp2_with fail
 refine(CK.out _ HBW.out).mono ?_;rintro e w1 ⟨rfl,hb1⟩;have GB:=qh hb1;have HB1:=qh (HB.out.below hb1 HB.out.lt);have HR1:=qh (HBR.out.below hb1 HBR.out.lt);clear hb1 CK x0 x1 x2 x3 x4 x5;obtain⟨x0,x1,x2,x3,x4,x5⟩:=frac_box HB1.out;obtain⟨y0,y1,y2,y3,y4,y5⟩:=frac_box HR1.out;go_wp2_with fail
 have hlt:=HB.out.lt;have hlt2:=HBR.out.lt;have hG:=HBW.out.trans (GB.out.mono HBW.out.size);refine bodyPost_ret (results_cell rfl _ _ _ _ _ _ _ rfl ((((HR1.out.put 0 _).put 1 _).put 2 _).put 3 _) Tryz.underlying28 rfl (by kernel_rfl)) rfl ⟨a1,c1,a2,c2,?_,?_,?_,?_,?_,?_⟩
 ·rw[HT.out.1.1,HT.out.1.2.1,HT.out.2.1,HT.out.2.2.1];rfl
 ·rw[HT.out.1.2.1];have r:RdS w1 B0 (w.heap.size+2) a1 n1 (dgi z1.natAbs):=⟨(HR.out.1.1.congr HT.out.1.2.2).below hG,fun h0 p hp=>Or.inl (HR.out.1.2 h0 p hp)⟩;exact((((r.set (by dsimp only;omega) (by dsimp only;omega) _).set (by dsimp only;omega) (by dsimp only;omega) _).set (by dsimp only;omega) (by dsimp only;omega) _).set (by dsimp only;omega) (by dsimp only;omega) _).up (by omega)
 ·rw[HT.out.1.2.1];exact hc1
 ·rw[HT.out.2.2.1];have r:RdS w1 B0 (w.heap.size+2) a2 n2 (dgi z2.natAbs):=⟨(HR.out.2.1.congr HT.out.2.2.2).below hG,fun h0 p hp=>Or.inl (HR.out.2.2 h0 p hp)⟩;exact((((r.set (by dsimp only;omega) (by dsimp only;omega) _).set (by dsimp only;omega) (by dsimp only;omega) _).set (by dsimp only;omega) (by dsimp only;omega) _).set (by dsimp only;omega) (by dsimp only;omega) _).up (by omega)
 ·rw[HT.out.2.2.1];exact hc2
 ·exact(((hG.setCell (by dsimp only;omega) _).setCell (by dsimp only;omega) _).setCell (by dsimp only;omega) _).setCell (by dsimp only;omega) _
open Classical in
theorem fof2_not (s1:Bool) (a1:Option Addr) (n1 c1:Nat) (o1:Nat→Int) (s2:Bool) (a2:Option Addr) (n2 c2:Nat) (o2:Nat→Int) (w:World) (B0:Nat)
  (h1:Rd w a1 n1 o1) (hn1:n1≤5000000) (hc1:n1≤c1) (h2:Rd w a2 n2 o2) (hn2:n2≤5000000) (hc2:n2≤c2) (hk:¬okF s1 n1 o1 s2 n2 o2) :
  Calls Tryz.prog 171 #[fracV s1 a1 n1 c1 s2 a2 n2 c2] w (FracS w B0 0 1):=by
 have CK:=qh (fun (w':World) (hb:Below w.heap.size w w')=>fcheck_any s1 a1 n1 c1 o1 s2 a2 n2 c2 o2 w' (h1.below hb) hn1 hc1 (h2.below hb) hn2 hc2);rw[decide_eq_false hk] at CK;obtain⟨one,hone⟩:∃ one:Int,one=1:=⟨_,rfl⟩;obtain⟨zer,hzer⟩:∃ zer:Int,zer=0:=⟨_,rfl⟩;have OF:=qh (fun (w':World)=>fof_any 0 w' (by omega) (by omega));rw[← hone,← hzer];have OF:=qh (show ∀ w',Calls Tryz.prog 72 #[.int .i64 0] w' (FracR w' zer one) from fun w'=>by rw[hone,hzer];exact OF.out w');clear hk h1 h2 hone hzer;have HB:=qh ((Bxs.new w 28 [.bool s1,.slice a1 n1 c1,.bool s2,.slice a2 n2 c2]).alloc (.cells #[.bool false,.slice none 0 0,.bool false,.slice none 0 0] 28));have HBR:=qh (Bxs.new (w.alloc (.cells #[.bool s1,.slice a1 n1 c1,.bool s2,.slice a2 n2 c2] 28)) 28 [.bool false,.slice none 0 0,.bool false,.slice none 0 0]);obtain⟨W,hW⟩:∃ W,W=(w.alloc (.cells #[.bool s1,.slice a1 n1 c1,.bool s2,.slice a2 n2 c2] 28)).alloc (.cells #[.bool false,.slice none 0 0,.bool false,.slice none 0 0] 28):=⟨_,rfl⟩;have HBW:=qh (show Below w.heap.size w W by rw[hW];exact((Below.refl _ _).alloc (Nat.le_refl _) _).alloc (by simp) _);rw[show(w.alloc (.cells (List.toArray [.bool s1,.slice a1 n1 c1,.bool s2,.slice a2 n2 c2]) 28)).alloc (.cells #[.bool false,.slice none 0 0,.bool false,.slice none 0 0] 28)=W from hW.symm] at HB;rw[show(w.alloc (.cells #[.bool s1,.slice a1 n1 c1,.bool s2,.slice a2 n2 c2] 28)).alloc (.cells (List.toArray [.bool false,.slice none 0 0,.bool false,.slice none 0 0]) 28)=W from hW.symm,World.size_alloc] at HBR
 have HW:=qh hW;clear hW;go_enter Tryz.func171,Tryz.ntmps171
 go_upto_region 1 with (fail)
 rw[show(w.alloc (.cells #[.bool s1,.slice a1 n1 c1,.bool s2,.slice a2 n2 c2] 28)).alloc (.cells #[.bool false,.slice none 0 0,.bool false,.slice none 0 0] 28)=W from HW.out.symm];obtain⟨x0,x1,x2,x3,x4,x5⟩:=frac_box HB.out;go_wp2_with fail
 refine(CK.out _ HBW.out).mono ?_;rintro e w1 ⟨rfl,hb1⟩;have GB:=qh hb1;clear hb1 CK x0 x1 x2 x3 x4 x5;go_wp2_with fail
 refine(OF.out w1).mono ?_;rintro e w2 ⟨t1,t2,rfl,ho1,ho2,-,hb2⟩;have HO:=qh (And.intro ho1 ho2);have hs1:=GB.out.size;have GB:=qk GB hb2;have HR1:=qh (HBR.out.below GB.out HBR.out.lt);have HS1:=qh hs1;clear ho1 ho2 hb2 hs1;obtain⟨y0,y1,y2,y3,y4,y5⟩:=frac_box HR1.out;go_wp2_with fail
 have hlt:=HB.out.lt;have hlt2:=HBR.out.lt;have hs1:=HS1.out;have hG:=HBW.out.trans (GB.out.mono HBW.out.size);refine bodyPost_ret (results_cell rfl _ _ _ _ _ _ _ rfl ((((HR1.out.put 0 _).put 1 _).put 2 _).put 3 _) Tryz.underlying28 rfl (by kernel_rfl)) rfl ⟨t1,_,t2,_,rfl,?_,Nat.le_refl _,?_,Nat.le_refl _,?_⟩
 ·exact(((((HO.out.1.other (by dsimp only;omega) _).other (by dsimp only;omega) _).other (by dsimp only;omega) _).other (by dsimp only;omega) _).rdS B0 w.heap.size (by omega))
 ·exact(((((HO.out.2.other (by dsimp only;omega) _).other (by dsimp only;omega) _).other (by dsimp only;omega) _).other (by dsimp only;omega) _).rdS B0 w.heap.size (by omega))
 ·exact(((hG.setCell (by dsimp only;omega) _).setCell (by dsimp only;omega) _).setCell (by dsimp only;omega) _).setCell (by dsimp only;omega) _
theorem fof2_any (s1:Bool) (a1:Option Addr) (n1 c1:Nat) (o1:Nat→Int) (s2:Bool) (a2:Option Addr) (n2 c2:Nat) (o2:Nat→Int) (w:World) (B0:Nat) (hB0:B0≤w.heap.size)
  (h1:Rd w a1 n1 o1) (hn1:n1≤5000000) (hc1:n1≤c1) (f1:0<n1→∀ p,a1=some p→p.block<B0) (h2:Rd w a2 n2 o2) (hn2:n2≤5000000) (hc2:n2≤c2) (f2:0<n2→∀ p,a2=some p→p.block<B0) :
  Calls Tryz.prog 171 #[fracV s1 a1 n1 c1 s2 a2 n2 c2] w (FracS w B0 (valF s1 n1 o1 s2 n2 o2).num ((valF s1 n1 o1 s2 n2 o2).den:Int)):=by
 by_cases hk:okF s1 n1 o1 s2 n2 o2
 ·obtain⟨e1,e2⟩:=valF_ok hk;rw[e1,e2];exact fof2_ok s1 a1 n1 c1 o1 s2 a2 n2 c2 o2 w B0 hB0 h1 hn1 hc1 f1 h2 hn2 hc2 f2 hk
 ·rw[valF_not hk];exact fof2_not s1 a1 n1 c1 o1 s2 a2 n2 c2 o2 w B0 h1 hn1 hc1 h2 hn2 hc2 hk
theorem lowest_any (z1 z2:Int) (a1 a2:Option Addr) (c1 c2:Nat) (w:World) (h1:Rd w a1 (lenB z1.natAbs) (dgi z1.natAbs)) (hn1:lenB z1.natAbs≤4000000) (hc1:lenB z1.natAbs≤c1) (h2:Rd w a2 (lenB z2.natAbs) (dgi z2.natAbs)) (hn2:lenB z2.natAbs≤4000000) (hc2:lenB z2.natAbs≤c2) (hz:z2≠0) :
  Calls Tryz.prog 220 #[numV (decide (z1<0)) a1 (lenB z1.natAbs) c1,numV (decide (z2<0)) a2 (lenB z2.natAbs) c2] w (FracR w (Rat.divInt z1 z2).num ((Rat.divInt z1 z2).den:Int)):=by
 obtain⟨G,hG⟩:∃ G:Int,G=((Int.gcd z1 z2:Nat):Int):=⟨_,rfl⟩;have HR:=qh (And.intro h1 h2);have HLL:=qh (And.intro hn1 hn2)
 obtain⟨g,hg⟩:∃ g:Int,g=if z2<0 then -G else G:=⟨_,rfl⟩
 have HRES:=qh (And.intro (low_num z1 z2 hz) (low_den z1 z2 hz));have HG0:=qh (low_gcd z1 z2 hz);rw[← hG,← hg] at HRES HG0
 have hGL:lenB G.natAbs≤8000000:=by rw[hG,Int.natAbs_natCast];have:=gcd_len z1 z2;omega
 have HGL:=qh (show lenB g.natAbs≤8000000 by rw[hg];split;rw[Int.natAbs_neg];exact hGL;exact hGL);have GC:=qh (fun (w':World) (hb:Below w.heap.size w w')=>gcd_any (decide (z1<0)) a1 (lenB z1.natAbs) c1 (dgi z1.natAbs) (decide (z2<0)) a2 (lenB z2.natAbs) c2 (dgi z2.natAbs) w' (h1.below hb) (by omega) hc1 (h2.below hb) (by omega) hc2);rw[canon_val,canon_val,← hG] at GC;have SG:=qh (fun (w':World) (hb:Below w.heap.size w w')=>sign_any (decide (z2<0)) a2 (lenB z2.natAbs) c2 (dgi z2.natAbs) w' (h2.below hb) (by omega) hc2);rw[canon_val] at SG;obtain⟨cs,hcs⟩:∃ cs,cs=cmpZ z2 0:=⟨_,rfl⟩;rw[← hcs] at SG;have HGE:=qh hG;have HGG:=qh hGL;have KB1:=qh (((Bx.new w 26 (.bool (decide (z1<0))) (.slice a1 (lenB z1.natAbs) c1)).alloc (.cells #[.bool (decide (z2<0)),.slice a2 (lenB z2.natAbs) c2] 26)).alloc (.cells #[.bool false,.slice none 0 0,.bool false,.slice none 0 0] 28));have KB2:=qh ((Bx.new2 w (.cells #[.bool (decide (z1<0)),.slice a1 (lenB z1.natAbs) c1] 26) 26 (.bool (decide (z2<0))) (.slice a2 (lenB z2.natAbs) c2)).alloc (.cells #[.bool false,.slice none 0 0,.bool false,.slice none 0 0] 28));have KB4:=qh (Bxs.new ((w.alloc (.cells #[.bool (decide (z1<0)),.slice a1 (lenB z1.natAbs) c1] 26)).alloc (.cells #[.bool (decide (z2<0)),.slice a2 (lenB z2.natAbs) c2] 26)) 28 [.bool false,.slice none 0 0,.bool false,.slice none 0 0]);obtain⟨W,hW⟩:∃ W,W=(((w.alloc (.cells #[.bool (decide (z1<0)),.slice a1 (lenB z1.natAbs) c1] 26)).alloc (.cells #[.bool (decide (z2<0)),.slice a2 (lenB z2.natAbs) c2] 26)).alloc (.cells #[.bool false,.slice none 0 0,.bool false,.slice none 0 0] 28)):=⟨_,rfl⟩
 have KG:=qh (show Below w.heap.size w W by rw[hW];exact(((Below.refl _ _).alloc (Nat.le_refl _) _).alloc (by go_size) _).alloc (by go_size) _)
 have hWs:w.heap.size+3=W.heap.size:=by rw[hW];simp
 rw[← hW] at KB1 KB2;rw[show(((w.alloc (.cells #[.bool (decide (z1<0)),.slice a1 (lenB z1.natAbs) c1] 26)).alloc (.cells #[.bool (decide (z2<0)),.slice a2 (lenB z2.natAbs) c2] 26)).alloc (.cells (List.toArray [.bool false,.slice none 0 0,.bool false,.slice none 0 0]) 28))=W from hW.symm,World.size_alloc,World.size_alloc] at KB4;have HW:=qh hW;have HWS:=qh hWs;clear h1 h2 hn1 hn2 hz hG hGL hW hWs;go_enter Tryz.func220,Tryz.ntmps220
 go_upto_region 1 with (fail)
 rw[show(((w.alloc (.cells #[.bool (decide (z1<0)),.slice a1 (lenB z1.natAbs) c1] 26)).alloc (.cells #[.bool (decide (z2<0)),.slice a2 (lenB z2.natAbs) c2] 26)).alloc (.cells #[.bool false,.slice none 0 0,.bool false,.slice none 0 0] 28))=W from HW.out.symm];clear HW;obtain⟨x0,x1,x2,x3⟩:=KB1.out.all;obtain⟨y0,y1,y2,y3⟩:=KB2.out.all;go_wp2_with fail
 refine(GC.out _ KG.out).mono ?_;rintro e w1 ⟨aG,rfl,hO,-,hb⟩
 go_upto_region 2 with (fail)
 obtain⟨V,hV⟩:∃ V,V=w1.alloc (.cells #[.bool (decide (G<0)),.slice aG (lenB G.natAbs) (lenB G.natAbs)] 26):=⟨_,rfl⟩
 have hbV:Below W.heap.size W V:=by rw[hV];exact hb.alloc hb.size _
 have KB5:=qh (show Bx V w1.heap.size 26 (.bool (decide (G<0))) (.slice aG (lenB G.natAbs) (lenB G.natAbs)) by rw[hV];exact Bx.new w1 _ _ _);have KO:=qh (show Own 160 V (w.heap.size+3) aG (lenB G.natAbs) (lenB G.natAbs) (dgi G.natAbs) by rw[hV,HWS.out];exact hO.allocd _);rw[show w1.alloc (.cells #[.bool (decide (G<0)),.slice aG (lenB G.natAbs) (lenB G.natAbs)] 26)=V from hV.symm];obtain⟨b5,hb5⟩:∃ b5,b5=w1.heap.size:=⟨_,rfl⟩;have HLT:=qh (show w.heap.size+2<b5 by have:=hb.size;have:=HWS.out;omega);have HVS:=qh (show w.heap.size+3≤V.heap.size by rw[HWS.out];exact hbV.size);have KX:=qh (show ∀ p,aG=some p→p.block<b5 from fun p hp=>by rw[hb5];exact(hO.blk hp).2.2);rw[← hb5] at KB5 ⊢;have KB1:=qh (KB1.out.below hbV KB1.out.lt);have KB2:=qh (KB2.out.below hbV KB2.out.lt);have KB4:=qh (KB4.out.below hbV KB4.out.lt);have KG:=qk KG hbV;clear hO hb hV hbV hb5 x0 x1 x2 x3 y0 y1 y2 y3 GC;obtain⟨x0,x1,x2,x3⟩:=KB1.out.all;obtain⟨y0,y1,y2,y3⟩:=KB2.out.all;obtain⟨u0,u1,u2,u3,u4,u5⟩:=frac_box KB4.out;obtain⟨g0,g1,g2,g3⟩:=KB5.out.all;go_wp2_with fail
 refine(SG.out _ KG.out).mono ?_;rintro e v ⟨rfl,hb⟩;clear x0 x1 x2 x3 y0 y1 y2 y3 u0 u1 u2 u3 u4 u5 g0 g1 g2 g3;have KB1:=qh (KB1.out.below hb KB1.out.lt);have KB2:=qh (KB2.out.below hb KB2.out.lt);have KB4:=qh (KB4.out.below hb KB4.out.lt);have KB5:=qh (KB5.out.below hb KB5.out.lt);have KG:=qh (KG.out.trans (Below.mono hb KG.out.size));have KO:=qh (KO.out.below hb);have HVS:=qh (Nat.le_trans HVS.out hb.size);clear hb SG
 by_cases hneg:z2<0
 ·have hc:cs<0:=by rw[hcs,cmpZ_lt hneg];omega
  have hgG:g = -G:=by rw[hg,if_pos hneg]
  clear hg hcs hneg;have NG:=qh (neg_any (decide (G<0)) aG (lenB G.natAbs) (lenB G.natAbs) (dgi G.natAbs) v KO.out.rd (by have:=HGG.out;omega) (Nat.le_refl _));rw[canon_val,← hgG] at NG;clear hgG;obtain⟨x0,x1,x2,x3⟩:=KB1.out.all;obtain⟨y0,y1,y2,y3⟩:=KB2.out.all;obtain⟨u0,u1,u2,u3,u4,u5⟩:=frac_box KB4.out;obtain⟨g0,g1,g2,g3⟩:=KB5.out.all;go_wp2_with fail
  refine NG.out.mono ?_;rintro e w3 ⟨ag,rfl,hO,-,hb⟩;have hb5v:=KB5.out.lt;clear x0 x1 x2 x3 y0 y1 y2 y3 u0 u1 u2 u3 u4 u5 g0 g1 g2 g3;have KB1:=qh (KB1.out.below hb KB1.out.lt);have KB2:=qh (KB2.out.below hb KB2.out.lt);have KB4:=qh (KB4.out.below hb KB4.out.lt);have KB5:=qh (KB5.out.below hb KB5.out.lt);have KG:=qh (KG.out.trans (Below.mono hb KG.out.size));have KO:=qh (hO.mono (show b5+1≤v.heap.size from hb5v));have HVS:=qh (Nat.le_trans HVS.out hb.size);clear hO hb NG hb5v;obtain⟨cg,hcg⟩:∃ cg,cg=lenB g.natAbs:=⟨_,rfl⟩;have HB5O:=qh (show b5<w3.heap.size from KB5.out.lt);obtain⟨x0,x1,x2,x3⟩:=KB1.out.all;obtain⟨y0,y1,y2,y3⟩:=KB2.out.all;obtain⟨u0,u1,u2,u3,u4,u5⟩:=frac_box KB4.out;obtain⟨g0,g1,g2,g3⟩:=KB5.out.all
  go_upto_region 4 with (fail)
  obtain⟨v,hv⟩:∃ v,v=(w3.setCell ⟨b5,0,none⟩ (.bool (decide (g<0)))).setCell ⟨b5,1,none⟩ (.slice ag (lenB g.natAbs) (lenB g.natAbs)):=⟨_,rfl⟩;have hlt:=HLT.out;have KB1:=qh (show Bx v w.heap.size 26 (.bool (decide (z1<0))) (.slice a1 (lenB z1.natAbs) c1) by rw[hv];exact(KB1.out.other (by dsimp only;omega) _).other (by dsimp only;omega) _);have KB2:=qh (show Bx v (w.heap.size+1) 26 (.bool (decide (z2<0))) (.slice a2 (lenB z2.natAbs) c2) by rw[hv];exact(KB2.out.other (by dsimp only;omega) _).other (by dsimp only;omega) _);have KB4:=qh (show Bxs v (w.heap.size+1+1) 28 [.bool false,.slice none 0 0,.bool false,.slice none 0 0] by rw[hv];exact(KB4.out.other (by dsimp only;omega) _).other (by dsimp only;omega) _);have KB5:=qh (show Bx v b5 26 (.bool (decide (g<0))) (.slice ag (lenB g.natAbs) cg) by rw[hv,hcg];exact KB5.out.set _ _);have KO:=qh (show Own 160 v (w.heap.size+3) ag (lenB g.natAbs) cg (dgi g.natAbs) by rw[hv,hcg];exact((KO.out.other (by dsimp only;omega) _).other (by dsimp only;omega) _).mono (by omega));have KG:=qh (show Below w.heap.size w v by rw[hv];exact(KG.out.setCell (by dsimp only;omega) _).setCell (by dsimp only;omega) _);have HVS:=qh (show w.heap.size+3≤v.heap.size by rw[hv];simp only[World.size_setCell];exact HVS.out);rw[show(w3.setCell ⟨b5,0,none⟩ (.bool (decide (g<0)))).setCell ⟨b5,1,none⟩ (.slice ag (lenB g.natAbs) (lenB g.natAbs))=v from hv.symm];clear hv hlt hcg;clear x0 x1 x2 x3 y0 y1 y2 y3 u0 u1 u2 u3 u4 u5 g0 g1 g2 g3;obtain⟨x0,x1,x2,x3⟩:=KB1.out.all;obtain⟨y0,y1,y2,y3⟩:=KB2.out.all
  obtain⟨u0,u1,u2,u3,u4,u5⟩:=frac_box KB4.out;obtain⟨g0,g1,g2,g3⟩:=KB5.out.all;have DV:=qh (div_ok z1 g a1 ag c1 cg v (HR.out.1.below KG.out) (by have:=HLL.out;omega) hc1 KO.out.rd (by have:=HGL.out;omega) KO.out.le HG0.out);go_wp2_with fail
  with_reducible refine DV.out.mono ?_
  rintro e w4 ⟨aq,ar,rfl,hq,-,-,-,-,hb⟩;clear x0 x1 x2 x3 y0 y1 y2 y3 u0 u1 u2 u3 u4 u5 g0 g1 g2 g3;have KB1:=qh (KB1.out.below hb KB1.out.lt);have KB2:=qh (KB2.out.below hb KB2.out.lt);have KB4:=qh (KB4.out.below hb KB4.out.lt);have KB5:=qh (KB5.out.below hb KB5.out.lt);have KG:=qh (KG.out.trans (Below.mono hb KG.out.size));have KO:=qh (KO.out.below hb);have HQ:=qh (hq.mono HVS.out);have HVS:=qh (Nat.le_trans HVS.out hb.size);clear hq hb DV;obtain⟨Q,hQ⟩:∃ Q,Q=z1/g:=⟨_,rfl⟩;rw[← hQ] at HQ ⊢;have HQE:=qh hQ;clear hQ;obtain⟨x0,x1,x2,x3⟩:=KB1.out.all;obtain⟨y0,y1,y2,y3⟩:=KB2.out.all;obtain⟨u0,u1,u2,u3,u4,u5⟩:=frac_box KB4.out;obtain⟨g0,g1,g2,g3⟩:=KB5.out.all;obtain⟨R,hR⟩:∃ R,R=z1%g:=⟨_,rfl⟩;rw[← hR];clear hR
  go_upto_region 5 with (fail)
  obtain⟨V,hV⟩:∃ V,V=(w4.setCell ⟨w.heap.size+1+1,0,none⟩ (.bool (decide (Q<0)))).setCell ⟨w.heap.size+1+1,1,none⟩ (.slice aq (lenB Q.natAbs) (lenB Q.natAbs)):=⟨_,rfl⟩;have hlt:=HLT.out;have KB1:=qh (show Bx V w.heap.size 26 (.bool (decide (z1<0))) (.slice a1 (lenB z1.natAbs) c1) by rw[hV];exact(KB1.out.other (by dsimp only;omega) _).other (by dsimp only;omega) _);have KB2:=qh (show Bx V (w.heap.size+1) 26 (.bool (decide (z2<0))) (.slice a2 (lenB z2.natAbs) c2) by rw[hV];exact(KB2.out.other (by dsimp only;omega) _).other (by dsimp only;omega) _);have KB4:=qh (show Bxs V (w.heap.size+1+1) 28 [.bool (decide (Q<0)),.slice aq (lenB Q.natAbs) (lenB Q.natAbs),.bool false,.slice none 0 0] by rw[hV];exact(KB4.out.put 0 _).put 1 _);have KB5:=qh (show Bx V b5 26 (.bool (decide (g<0))) (.slice ag (lenB g.natAbs) cg) by rw[hV];exact(KB5.out.other (by dsimp only;omega) _).other (by dsimp only;omega) _);have KO:=qh (show Own 160 V (w.heap.size+3) ag (lenB g.natAbs) cg (dgi g.natAbs) by rw[hV];exact(KO.out.other (by dsimp only;omega) _).other (by dsimp only;omega) _);have HQ:=qh (show Own 160 V (w.heap.size+3) aq (lenB Q.natAbs) (lenB Q.natAbs) (dgi Q.natAbs) by rw[hV];exact(HQ.out.other (by dsimp only;omega) _).other (by dsimp only;omega) _);have KG:=qh (show Below w.heap.size w V by rw[hV];exact(KG.out.setCell (by dsimp only;omega) _).setCell (by dsimp only;omega) _);have HVS:=qh (show w.heap.size+3≤V.heap.size by rw[hV];simp only[World.size_setCell];exact HVS.out);rw[show(w4.setCell ⟨w.heap.size+1+1,0,none⟩ (.bool (decide (Q<0)))).setCell ⟨w.heap.size+1+1,1,none⟩ (.slice aq (lenB Q.natAbs) (lenB Q.natAbs))=V from hV.symm]
  clear hV hlt;clear x0 x1 x2 x3 y0 y1 y2 y3 u0 u1 u2 u3 u4 u5 g0 g1 g2 g3;obtain⟨x0,x1,x2,x3⟩:=KB1.out.all;obtain⟨y0,y1,y2,y3⟩:=KB2.out.all;obtain⟨u0,u1,u2,u3,u4,u5⟩:=frac_box KB4.out;obtain⟨g0,g1,g2,g3⟩:=KB5.out.all;have DV:=qh (div_ok z2 g a2 ag c2 cg V (HR.out.2.below KG.out) (by have:=HLL.out;omega) hc2 KO.out.rd (by have:=HGL.out;omega) KO.out.le HG0.out);go_wp2_with fail
  with_reducible refine DV.out.mono ?_
  rintro e w5 ⟨ap,ar2,rfl,hp,-,-,-,-,hb⟩;clear x0 x1 x2 x3 y0 y1 y2 y3 u0 u1 u2 u3 u4 u5 g0 g1 g2 g3;have KB1:=qh (KB1.out.below hb KB1.out.lt);have KB2:=qh (KB2.out.below hb KB2.out.lt);have KB4:=qh (KB4.out.below hb KB4.out.lt);have KB5:=qh (KB5.out.below hb KB5.out.lt);have KG:=qh (KG.out.trans (Below.mono hb KG.out.size))
  have HAP:=qh (show Apart2 aq ap from fun p q h1 h2 e=>by
   have h3:=(HQ.out.blk h1).2.2;have h4:=(hp.blk h2).2.1
   omega)
  have HQ:=qh (HQ.out.below hb);have HP:=qh (hp.mono HVS.out);clear hp hb DV;obtain⟨P,hP⟩:∃ P,P=z2/g:=⟨_,rfl⟩;rw[← hP] at HP ⊢;have HPE:=qh hP;clear hP;obtain⟨R2,hR2⟩:∃ R2,R2=z2%g:=⟨_,rfl⟩;rw[← hR2];clear hR2;obtain⟨x0,x1,x2,x3⟩:=KB1.out.all;obtain⟨y0,y1,y2,y3⟩:=KB2.out.all;obtain⟨u0,u1,u2,u3,u4,u5⟩:=frac_box KB4.out;obtain⟨g0,g1,g2,g3⟩:=KB5.out.all;go_wp2_with fail
  have hlt:=HLT.out;refine bodyPost_ret (results_cell rfl _ _ _ _ _ _ _ rfl ((((((KB4.out.put 2 _).put 3 _).put 0 _).put 1 _).put 2 _).put 3 _) Tryz.underlying28 rfl (by kernel_rfl)) rfl ?_;unfold FracR;rw[← HRES.out.1,← HRES.out.2,← HQE.out,← HPE.out];refine⟨aq,ap,rfl,?_,?_,HAP.out,?_⟩
  ·exact((((((HQ.out.other (by dsimp only;omega) _).other (by dsimp only;omega) _).other (by dsimp only;omega) _).other (by dsimp only;omega) _).other (by dsimp only;omega) _).other (by dsimp only;omega) _).mono (by omega)
  ·exact((((((HP.out.other (by dsimp only;omega) _).other (by dsimp only;omega) _).other (by dsimp only;omega) _).other (by dsimp only;omega) _).other (by dsimp only;omega) _).other (by dsimp only;omega) _).mono (by omega)
  ·exact(((((KG.out.setCell (by dsimp only;omega) _).setCell (by dsimp only;omega) _).setCell (by dsimp only;omega) _).setCell (by dsimp only;omega) _).setCell (by dsimp only;omega) _).setCell (by dsimp only;omega) _
 ·have hc:¬cs<0:=by rw[hcs];unfold cmpZ;rw[if_neg hneg];split <;> omega
  have hgG:g=G:=by rw[hg,if_neg hneg]
  subst hgG;clear hg hcs hneg;obtain⟨ag,rfl⟩:∃ ag,ag=aG:=⟨_,rfl⟩;obtain⟨cg,hcg⟩:∃ cg,cg=lenB g.natAbs:=⟨_,rfl⟩;have KB5:=qh (show Bx v b5 26 (.bool (decide (g<0))) (.slice ag (lenB g.natAbs) cg) by rw[hcg];exact KB5.out);have KO:=qh (show Own 160 v (w.heap.size+3) ag (lenB g.natAbs) cg (dgi g.natAbs) by rw[hcg];exact KO.out);clear hcg;obtain⟨x0,x1,x2,x3⟩:=KB1.out.all;obtain⟨y0,y1,y2,y3⟩:=KB2.out.all;obtain⟨u0,u1,u2,u3,u4,u5⟩:=frac_box KB4.out;obtain⟨g0,g1,g2,g3⟩:=KB5.out.all;have DV:=qh (div_ok z1 g a1 ag c1 cg v (HR.out.1.below KG.out) (by have:=HLL.out;omega) hc1 KO.out.rd (by have:=HGL.out;omega) KO.out.le HG0.out);go_wp2_with fail
  with_reducible refine DV.out.mono ?_
  rintro e w4 ⟨aq,ar,rfl,hq,-,-,-,-,hb⟩;clear x0 x1 x2 x3 y0 y1 y2 y3 u0 u1 u2 u3 u4 u5 g0 g1 g2 g3;have KB1:=qh (KB1.out.below hb KB1.out.lt);have KB2:=qh (KB2.out.below hb KB2.out.lt);have KB4:=qh (KB4.out.below hb KB4.out.lt);have KB5:=qh (KB5.out.below hb KB5.out.lt);have KG:=qh (KG.out.trans (Below.mono hb KG.out.size));have KO:=qh (KO.out.below hb);have HQ:=qh (hq.mono HVS.out);have HVS:=qh (Nat.le_trans HVS.out hb.size);clear hq hb DV;obtain⟨Q,hQ⟩:∃ Q,Q=z1/g:=⟨_,rfl⟩;rw[← hQ] at HQ ⊢;have HQE:=qh hQ;clear hQ;obtain⟨x0,x1,x2,x3⟩:=KB1.out.all;obtain⟨y0,y1,y2,y3⟩:=KB2.out.all;obtain⟨u0,u1,u2,u3,u4,u5⟩:=frac_box KB4.out;obtain⟨g0,g1,g2,g3⟩:=KB5.out.all;obtain⟨R,hR⟩:∃ R,R=z1%g:=⟨_,rfl⟩;rw[← hR];clear hR
  go_upto_region 5 with (fail)
  obtain⟨V,hV⟩:∃ V,V=(w4.setCell ⟨w.heap.size+1+1,0,none⟩ (.bool (decide (Q<0)))).setCell ⟨w.heap.size+1+1,1,none⟩ (.slice aq (lenB Q.natAbs) (lenB Q.natAbs)):=⟨_,rfl⟩;have hlt:=HLT.out;have KB1:=qh (show Bx V w.heap.size 26 (.bool (decide (z1<0))) (.slice a1 (lenB z1.natAbs) c1) by rw[hV];exact(KB1.out.other (by dsimp only;omega) _).other (by dsimp only;omega) _);have KB2:=qh (show Bx V (w.heap.size+1) 26 (.bool (decide (z2<0))) (.slice a2 (lenB z2.natAbs) c2) by rw[hV];exact(KB2.out.other (by dsimp only;omega) _).other (by dsimp only;omega) _);have KB4:=qh (show Bxs V (w.heap.size+1+1) 28 [.bool (decide (Q<0)),.slice aq (lenB Q.natAbs) (lenB Q.natAbs),.bool false,.slice none 0 0] by rw[hV];exact(KB4.out.put 0 _).put 1 _);have KB5:=qh (show Bx V b5 26 (.bool (decide (g<0))) (.slice ag (lenB g.natAbs) cg) by rw[hV];exact(KB5.out.other (by dsimp only;omega) _).other (by dsimp only;omega) _);have KO:=qh (show Own 160 V (w.heap.size+3) ag (lenB g.natAbs) cg (dgi g.natAbs) by rw[hV];exact(KO.out.other (by dsimp only;omega) _).other (by dsimp only;omega) _);have HQ:=qh (show Own 160 V (w.heap.size+3) aq (lenB Q.natAbs) (lenB Q.natAbs) (dgi Q.natAbs) by rw[hV];exact(HQ.out.other (by dsimp only;omega) _).other (by dsimp only;omega) _);have KG:=qh (show Below w.heap.size w V by rw[hV];exact(KG.out.setCell (by dsimp only;omega) _).setCell (by dsimp only;omega) _);have HVS:=qh (show w.heap.size+3≤V.heap.size by rw[hV];simp only[World.size_setCell];exact HVS.out);rw[show(w4.setCell ⟨w.heap.size+1+1,0,none⟩ (.bool (decide (Q<0)))).setCell ⟨w.heap.size+1+1,1,none⟩ (.slice aq (lenB Q.natAbs) (lenB Q.natAbs))=V from hV.symm]
  clear hV hlt;clear x0 x1 x2 x3 y0 y1 y2 y3 u0 u1 u2 u3 u4 u5 g0 g1 g2 g3;obtain⟨x0,x1,x2,x3⟩:=KB1.out.all;obtain⟨y0,y1,y2,y3⟩:=KB2.out.all;obtain⟨u0,u1,u2,u3,u4,u5⟩:=frac_box KB4.out;obtain⟨g0,g1,g2,g3⟩:=KB5.out.all;have DV:=qh (div_ok z2 g a2 ag c2 cg V (HR.out.2.below KG.out) (by have:=HLL.out;omega) hc2 KO.out.rd (by have:=HGL.out;omega) KO.out.le HG0.out);go_wp2_with fail
  with_reducible refine DV.out.mono ?_
  rintro e w5 ⟨ap,ar2,rfl,hp,-,-,-,-,hb⟩;clear x0 x1 x2 x3 y0 y1 y2 y3 u0 u1 u2 u3 u4 u5 g0 g1 g2 g3;have KB1:=qh (KB1.out.below hb KB1.out.lt);have KB2:=qh (KB2.out.below hb KB2.out.lt);have KB4:=qh (KB4.out.below hb KB4.out.lt);have KB5:=qh (KB5.out.below hb KB5.out.lt);have KG:=qh (KG.out.trans (Below.mono hb KG.out.size))
  have HAP:=qh (show Apart2 aq ap from fun p q h1 h2 e=>by
   have h3:=(HQ.out.blk h1).2.2;have h4:=(hp.blk h2).2.1
   omega)
  have HQ:=qh (HQ.out.below hb);have HP:=qh (hp.mono HVS.out);clear hp hb DV;obtain⟨P,hP⟩:∃ P,P=z2/g:=⟨_,rfl⟩;rw[← hP] at HP ⊢;have HPE:=qh hP;clear hP;obtain⟨R2,hR2⟩:∃ R2,R2=z2%g:=⟨_,rfl⟩;rw[← hR2];clear hR2;obtain⟨x0,x1,x2,x3⟩:=KB1.out.all;obtain⟨y0,y1,y2,y3⟩:=KB2.out.all;obtain⟨u0,u1,u2,u3,u4,u5⟩:=frac_box KB4.out;obtain⟨g0,g1,g2,g3⟩:=KB5.out.all;go_wp2_with fail
  have hlt:=HLT.out;refine bodyPost_ret (results_cell rfl _ _ _ _ _ _ _ rfl ((((((KB4.out.put 2 _).put 3 _).put 0 _).put 1 _).put 2 _).put 3 _) Tryz.underlying28 rfl (by kernel_rfl)) rfl ?_;unfold FracR;rw[← HRES.out.1,← HRES.out.2,← HQE.out,← HPE.out];refine⟨aq,ap,rfl,?_,?_,HAP.out,?_⟩
  ·exact((((((HQ.out.other (by dsimp only;omega) _).other (by dsimp only;omega) _).other (by dsimp only;omega) _).other (by dsimp only;omega) _).other (by dsimp only;omega) _).other (by dsimp only;omega) _).mono (by omega)
  ·exact((((((HP.out.other (by dsimp only;omega) _).other (by dsimp only;omega) _).other (by dsimp only;omega) _).other (by dsimp only;omega) _).other (by dsimp only;omega) _).other (by dsimp only;omega) _).mono (by omega)
  ·exact(((((KG.out.setCell (by dsimp only;omega) _).setCell (by dsimp only;omega) _).setCell (by dsimp only;omega) _).setCell (by dsimp only;omega) _).setCell (by dsimp only;omega) _).setCell (by dsimp only;omega) _
structure FracI (w:World) (lo hi:Nat) (p q:Int) (x:Option Addr × Nat × Option Addr × Nat):Prop where
 r1:RdS w lo hi x.1 (lenB p.natAbs) (dgi p.natAbs)
 c1:lenB p.natAbs≤x.2.1
 r2:RdS w lo hi x.2.2.1 (lenB q.natAbs) (dgi q.natAbs)
 c2:lenB q.natAbs≤x.2.2.2
theorem FracI.below {w w':World} {lo hi:Nat} {p q:Int} {x:Option Addr × Nat × Option Addr × Nat} (h:FracI w lo hi p q x) (hb:Below w.heap.size w w'):FracI w' lo hi p q x:=⟨h.r1.below hb,h.c1,h.r2.below hb,h.c2⟩
theorem FracI.set {w:World} {lo hi:Nat} {p q:Int} {x:Option Addr × Nat × Option Addr × Nat} (h:FracI w lo hi p q x) {a:Addr} (h1:lo≤a.block) (h2:a.block<hi) (v:Value):FracI (w.setCell a v) lo hi p q x:=⟨h.r1.set h1 h2 v,h.c1,h.r2.set h1 h2 v,h.c2⟩
theorem FracI.up {w:World} {lo hi hi':Nat} {p q:Int} {x:Option Addr × Nat × Option Addr × Nat} (h:FracI w lo hi p q x) (hh:hi'≤hi):FracI w lo hi' p q x:=⟨h.r1.up hh,h.c1,h.r2.up hh,h.c2⟩
abbrev fracX (p q:Int) (x:Option Addr × Nat × Option Addr × Nat):Value:=fracV (decide (p<0)) x.1 (lenB p.natAbs) x.2.1 (decide (q<0)) x.2.2.1 (lenB q.natAbs) x.2.2.2
theorem fracI_of {lo hi:Nat} {p q:Int} {x:Option Addr × Nat × Option Addr × Nat} {w:World} (h:∃ y,fracX p q x=fracX p q y∧FracI w lo hi p q y):FracI w lo hi p q x:=by
 obtain⟨y,e,h⟩:=h;simp only[Value.agg.injEq,Array.mk.injEq,List.cons.injEq,Value.slice.injEq,true_and,and_true] at e;obtain⟨⟨e1,e2⟩,e3,e4⟩:=e;obtain⟨x1,x2,x3,x4⟩:=x;obtain⟨y1,y2,y3,y4⟩:=y;dsimp only at e1 e2 e3 e4;subst e1 e2 e3 e4;exact h
theorem fracS_ex {w:World} {B0:Nat} {p q:Int} {e:Ending} {w':World} (h:FracS w B0 p q e w'):∃ x,e=.returned (fracX p q x)∧FracI w' B0 w.heap.size p q x∧Below w.heap.size w w':=by
 obtain⟨a1,c1,a2,c2,rfl,r1,l1,r2,l2,hb⟩:=h;exact⟨(a1,c1,a2,c2),rfl,⟨r1,l1,r2,l2⟩,hb⟩
def Brought (w:World) (t1 t2 l:Int) (e:Ending) (w':World):Prop :=
 ∃ m1 m2 m3:Option Addr,e=.returned (.tuple #[fracV (decide (t1<0)) m1 (lenB t1.natAbs) (lenB t1.natAbs) (decide (t2<0)) m2 (lenB t2.natAbs) (lenB t2.natAbs),numV (decide (l<0)) m3 (lenB l.natAbs) (lenB l.natAbs)]) ∧
  Own 160 w' w.heap.size m1 (lenB t1.natAbs) (lenB t1.natAbs) (dgi t1.natAbs)∧Own 160 w' w.heap.size m2 (lenB t2.natAbs) (lenB t2.natAbs) (dgi t2.natAbs)∧Own 160 w' w.heap.size m3 (lenB l.natAbs) (lenB l.natAbs) (dgi l.natAbs)∧Below w.heap.size w w'
theorem valF_len {s1:Bool} {n1:Nat} {o1:Nat→Int} {s2:Bool} {n2:Nat} {o2:Nat→Int} (g1:∀ i,i<n1→0≤o1 i∧o1 i≤4294967295) (g2:∀ i,i<n2→0≤o2 i∧o2 i≤4294967295) :
  lenB (valF s1 n1 o1 s2 n2 o2).num.natAbs≤n1+1∧lenB ((valF s1 n1 o1 s2 n2 o2).den:Int).natAbs≤n2+1:=by
 by_cases hk:okF s1 n1 o1 s2 n2 o2
 ·obtain⟨e1,e2⟩:=valF_ok hk;rw[e1,e2];have h1:=(of_facts s1 n1 o1 hk.1 g1).2.1;have h2:=(of_facts s2 n2 o2 hk.2.1 g2).2.1;omega
 ·rw[valF_not hk];have h1:lenB (Rat.num 0).natAbs=0:=lenB_zero;have h2:lenB (((Rat.den 0:Nat):Int)).natAbs≤1:=lenB_le (by decide);omega
end Go.Proofs.YtgkkbkoiaccmfaaGreatDoor.Limb
