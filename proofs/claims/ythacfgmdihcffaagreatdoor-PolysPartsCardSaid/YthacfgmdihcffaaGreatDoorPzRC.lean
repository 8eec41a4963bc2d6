/-
  The walk of Mul of package limbs.
-/
import Derived.Test.YthacfgmdihcffaaGreatDoorPzRB
import Derived.Lib.SliceRun
import Derived.Deep.DeepCutAuto
import Derived.Deep.RegionHeld3
set_option linter.unusedSimpArgs false
set_option linter.unusedVariables false
set_option maxHeartbeats 16000000
set_option maxRecDepth 100000
namespace Go.Proofs.YthacfgmdihcffaaGreatDoor
namespace Mono
open Go.RowKit Go.Sort
def clampZ (n:Int):Int:=if 0<n then 1 else if n<0 then -1 else 0
theorem clamp_sub (x y:Int):clampZ (x-y)=cmpZ x y:=by
 unfold clampZ cmpZ;by_cases h:x<y
 ·rw[if_pos h,if_neg (by omega),if_pos (by omega)]
 ·rw[if_neg h];by_cases h2:y<x
  ·rw[if_pos h2,if_pos (by omega)]
  ·rw[if_neg h2,if_neg (by omega),if_neg (by omega)]
theorem cmpZ_zero {x y:Int}:cmpZ x y=0↔x=y:=by
 unfold cmpZ;by_cases h:x<y
 ·simp[h];omega
 ·by_cases h2:y<x
  ·simp[h,h2];omega
  ·simp[h,h2];omega
theorem lexM_zero {a b:Nat->Int}:lexM a b=0↔∀ k,k<4->a k=b k:=by
 obtain⟨k,h⟩:=diff_any a b;rw[lex_diff h];by_cases hk:k<4
 ·rw[if_pos hk,cmpZ_zero];exact⟨fun e=>absurd e (h.2.2 hk),fun e=>e k hk⟩
 ·rw[if_neg hk];exact⟨fun _ j hj=>h.2.1 j (by omega),fun _=>rfl⟩
theorem lexM_same {a b:Nat->Int} (h:lexM (revM b) (revM a)=0):lexM a b=0:=by
 rw[lexM_zero] at h ⊢;intro k hk;have:=h (3-k) (by omega);simp only[revM] at this;rw[show 3-(3-k)=k by omega] at this;exact this.symm
def tailM (o:Int) (a b:Nat->Int):Int:=if o=2 then lexM (revM b) (revM a) else lexM a b
theorem cmpM_deg {o:Int} {a b:Nat->Int} (ho:o=1\/o=2) (h:¬degM a=degM b):cmpM o a b=clampZ (degM a-degM b):=by
 have hz:¬cmpZ (degM a) (degM b)=0:=fun e=>h (cmpZ_zero.1 e)
 rw[clamp_sub];unfold cmpM
 rcases ho with rfl | rfl
 ·rw[if_pos rfl,if_neg hz]
 ·rw[if_neg (by omega),if_pos rfl,if_neg hz]
theorem cmpM_tail {o:Int} {a b:Nat->Int} (h:(o=1\/o=2)->degM a=degM b):cmpM o a b=tailM o a b:=by
 unfold cmpM tailM;by_cases h1:o=1
 ·rw[if_pos h1,if_pos (cmpZ_zero.2 (h (Or.inl h1))),if_neg (show ¬o=2 by omega)]
 ·rw[if_neg h1];by_cases h2:o=2
  ·rw[if_pos h2,if_pos h2,if_pos (cmpZ_zero.2 (h (Or.inr h2)))];by_cases h3:lexM (revM b) (revM a)=0
   ·rw[if_pos h3,h3];exact lexM_same h3
   ·rw[if_neg h3]
  ·rw[if_neg h2,if_neg h2]
theorem rcmp_deg1 (a b:Nat->Int) (h:¬degM a=degM b) (w:World) (ha:Small a) (hb:Small b) :
  Calls Tryz.prog 37 #[.int .u8 1,mvf a,mvf b] w fun e w'=>e=.returned (.int .i64 (cmpM 1 a b))/\Below w.heap.size w w':=by
 have HA:=qh ha;clear ha;have HB:=qh hb;clear hb;have HX:=qh (boxes w 35 a b);have E:=qh (cmpM_deg (o:=1) (by omega) h);obtain⟨a0,a1,a2,a3⟩:=rows4 HX.o.1;obtain⟨b0,b1,b2,b3⟩:=rows4 HX.o.2
 have d1:0<=degM a/\degM a<=262140:=by have:=HA.o 0 (by omega);have:=HA.o 1 (by omega);have:=HA.o 2 (by omega);have:=HA.o 3 (by omega);unfold degM;omega
 have d2:0<=degM b/\degM b<=262140:=by have:=HB.o 0 (by omega);have:=HB.o 1 (by omega);have:=HB.o 2 (by omega);have:=HB.o 3 (by omega);unfold degM;omega
 have es:=IntWalk.i64_in (degM a-degM b) (by omega)
 have hz:(degM a-degM b != 0)=true:=by simp;omega
 rcases Int.lt_or_gt_of_ne h with h' | h'
 ·have E2:=qh (show clampZ (degM a-degM b) = -1 by unfold clampZ;rw[if_neg (by omega),if_pos (by omega)]);clear h;go_enter Tryz.func37,Tryz.ntmps37;go_wp2_with fail
  refine wp_region_quiet_below (by kernel_rfl) (by kernel_rfl) ?_
  repeat (go_big_quiet_step (first
   | (go_at_call 107;first | (with_reducible exact Calls.regrown_of (rdegree_any a _ HA.o)) | (with_reducible exact Calls.regrown_of (rdegree_any b _ HB.o)))))
  refine wpQuiet_nil ?_;intro w5 hw5;obtain⟨q,hq⟩:=hw5;have hb5:=below_regrown ((w.alloc (.cells (arr4 a) 35)).alloc (.cells (arr4 b) 35)) q.d q.os;rw[<- show w5=_ from hq] at hb5;clear hq;have A5:=qh (rowBelow HX.o.1 hb5 (by simp;omega));have B5:=qh (rowBelow HX.o.2 hb5 (by simp));have G5:=qh (zk.alloc zj _ |>.alloc (by go_size) _ |>.trans (hb5.mono (by go_size)):Below w.heap.size w w5);clear hb5 es a0 a1 a2 a3 b0 b1 b2 b3 HX;go_wp2;go_ret;exact⟨by rw[E.o,E2.o];rfl,G5.o⟩
 ·have E2:=qh (show clampZ (degM a-degM b)=1 by unfold clampZ;rw[if_pos (by omega)]);clear h;go_enter Tryz.func37,Tryz.ntmps37;go_wp2_with fail
  refine wp_region_quiet_below (by kernel_rfl) (by kernel_rfl) ?_
  repeat (go_big_quiet_step (first
   | (go_at_call 107;first | (with_reducible exact Calls.regrown_of (rdegree_any a _ HA.o)) | (with_reducible exact Calls.regrown_of (rdegree_any b _ HB.o)))))
  refine wpQuiet_nil ?_;intro w5 hw5;obtain⟨q,hq⟩:=hw5;have hb5:=below_regrown ((w.alloc (.cells (arr4 a) 35)).alloc (.cells (arr4 b) 35)) q.d q.os;rw[<- show w5=_ from hq] at hb5;clear hq;have A5:=qh (rowBelow HX.o.1 hb5 (by simp;omega));have B5:=qh (rowBelow HX.o.2 hb5 (by simp));have G5:=qh (zk.alloc zj _ |>.alloc (by go_size) _ |>.trans (hb5.mono (by go_size)):Below w.heap.size w w5);clear hb5 es a0 a1 a2 a3 b0 b1 b2 b3 HX;go_wp2;go_ret;exact⟨by rw[E.o,E2.o];rfl,G5.o⟩
theorem rcmp_deg2 (a b:Nat->Int) (h:¬degM a=degM b) (w:World) (ha:Small a) (hb:Small b) :
  Calls Tryz.prog 37 #[.int .u8 2,mvf a,mvf b] w fun e w'=>e=.returned (.int .i64 (cmpM 2 a b))/\Below w.heap.size w w':=by
 have HA:=qh ha;clear ha;have HB:=qh hb;clear hb;have HX:=qh (boxes w 35 a b);have E:=qh (cmpM_deg (o:=2) (by omega) h);obtain⟨a0,a1,a2,a3⟩:=rows4 HX.o.1;obtain⟨b0,b1,b2,b3⟩:=rows4 HX.o.2
 have d1:0<=degM a/\degM a<=262140:=by have:=HA.o 0 (by omega);have:=HA.o 1 (by omega);have:=HA.o 2 (by omega);have:=HA.o 3 (by omega);unfold degM;omega
 have d2:0<=degM b/\degM b<=262140:=by have:=HB.o 0 (by omega);have:=HB.o 1 (by omega);have:=HB.o 2 (by omega);have:=HB.o 3 (by omega);unfold degM;omega
 have es:=IntWalk.i64_in (degM a-degM b) (by omega)
 have hz:(degM a-degM b != 0)=true:=by simp;omega
 rcases Int.lt_or_gt_of_ne h with h' | h'
 ·have E2:=qh (show clampZ (degM a-degM b) = -1 by unfold clampZ;rw[if_neg (by omega),if_pos (by omega)]);clear h;go_enter Tryz.func37,Tryz.ntmps37;go_wp2_with fail
  refine wp_region_quiet_below (by kernel_rfl) (by kernel_rfl) ?_
  repeat (go_big_quiet_step (first
   | (go_at_call 107;first | (with_reducible exact Calls.regrown_of (rdegree_any a _ HA.o)) | (with_reducible exact Calls.regrown_of (rdegree_any b _ HB.o)))))
  refine wpQuiet_nil ?_;intro w5 hw5;obtain⟨q,hq⟩:=hw5;have hb5:=below_regrown ((w.alloc (.cells (arr4 a) 35)).alloc (.cells (arr4 b) 35)) q.d q.os;rw[<- show w5=_ from hq] at hb5;clear hq;have A5:=qh (rowBelow HX.o.1 hb5 (by simp;omega));have B5:=qh (rowBelow HX.o.2 hb5 (by simp));have G5:=qh (zk.alloc zj _ |>.alloc (by go_size) _ |>.trans (hb5.mono (by go_size)):Below w.heap.size w w5);clear hb5 es a0 a1 a2 a3 b0 b1 b2 b3 HX;go_wp2;go_ret;exact⟨by rw[E.o,E2.o];rfl,G5.o⟩
 ·have E2:=qh (show clampZ (degM a-degM b)=1 by unfold clampZ;rw[if_pos (by omega)]);clear h;go_enter Tryz.func37,Tryz.ntmps37;go_wp2_with fail
  refine wp_region_quiet_below (by kernel_rfl) (by kernel_rfl) ?_
  repeat (go_big_quiet_step (first
   | (go_at_call 107;first | (with_reducible exact Calls.regrown_of (rdegree_any a _ HA.o)) | (with_reducible exact Calls.regrown_of (rdegree_any b _ HB.o)))))
  refine wpQuiet_nil ?_;intro w5 hw5;obtain⟨q,hq⟩:=hw5;have hb5:=below_regrown ((w.alloc (.cells (arr4 a) 35)).alloc (.cells (arr4 b) 35)) q.d q.os;rw[<- show w5=_ from hq] at hb5;clear hq;have A5:=qh (rowBelow HX.o.1 hb5 (by simp;omega));have B5:=qh (rowBelow HX.o.2 hb5 (by simp));have G5:=qh (zk.alloc zj _ |>.alloc (by go_size) _ |>.trans (hb5.mono (by go_size)):Below w.heap.size w w5);clear hb5 es a0 a1 a2 a3 b0 b1 b2 b3 HX;go_wp2;go_ret;exact⟨by rw[E.o,E2.o];rfl,G5.o⟩
theorem rcmp_fwd1 (a b:Nat->Int) (h:degM a=degM b) (w:World) (ha:Small a) (hb:Small b) :
  Calls Tryz.prog 37 #[.int .u8 1,mvf a,mvf b] w fun e w'=>e=.returned (.int .i64 (cmpM 1 a b))/\Below w.heap.size w w':=by
 have HA:=qh ha;clear ha;have HB:=qh hb;clear hb;have HX:=qh (boxes w 35 a b);have T:=qh (show cmpM 1 a b=lexM a b by rw[cmpM_tail (fun _=>h)];rfl);obtain⟨a0,a1,a2,a3⟩:=rows4 HX.o.1;obtain⟨b0,b1,b2,b3⟩:=rows4 HX.o.2;have es:=IntWalk.i64_in (degM a-degM b) (by have:=HA.o 0 (by omega);have:=HA.o 1 (by omega);have:=HA.o 2 (by omega);have:=HA.o 3 (by omega);have:=HB.o 0 (by omega);have:=HB.o 1 (by omega);have:=HB.o 2 (by omega);have:=HB.o 3 (by omega);unfold degM;omega)
 have hz:(degM a-degM b != 0)=false:=by simp;omega
 clear h;go_enter Tryz.func37,Tryz.ntmps37;go_wp2_with fail
 refine wp_region_quiet_below (by kernel_rfl) (by kernel_rfl) ?_
 repeat (go_big_quiet_step (first
  | (go_at_call 107;first | (with_reducible exact Calls.regrown_of (rdegree_any a _ HA.o)) | (with_reducible exact Calls.regrown_of (rdegree_any b _ HB.o)))))
 refine wpQuiet_nil ?_;intro w5 hw5;obtain⟨q,hq⟩:=hw5;have hb5:=below_regrown ((w.alloc (.cells (arr4 a) 35)).alloc (.cells (arr4 b) 35)) q.d q.os;rw[<- show w5=_ from hq] at hb5;clear hq;have A5:=qh (rowBelow HX.o.1 hb5 (by simp;omega));have B5:=qh (rowBelow HX.o.2 hb5 (by simp));have G5:=qh (zk.alloc zj _ |>.alloc (by go_size) _ |>.trans (hb5.mono (by go_size)):Below w.heap.size w w5);clear hb5 es a0 a1 a2 a3 b0 b1 b2 b3 HX;go_wp2_with fail
 obtain⟨k0,hD⟩:=diff_any a b;have E:=qh ((T.o).trans (lex_diff hD));have h4:=hD.1;have EQ:=qh hD.2.1;have NE:=qh hD.2.2;clear hD;go_loopw [9] (fun i wr=>∃ k:Nat,k<=k0/\i=.int .i64 k/\wr.rowIs w.heap.size 35 4 (cell a)/\wr.rowIs (w.heap.size+1) 35 4 (cell b)/\Below w.heap.size w wr) (fun i _=>4-(intOf i).toNat)
 case atStart=>exact⟨0,by omega,rfl,A5.o,B5.o,G5.o⟩
 case round =>
  obtain⟨k,hk,rfl,RA,RB,G⟩:=hrel;clear A5 B5 G5;have GH:=qh G;clear G;by_cases hlt:k<4
  ·have c1:=RA.cell hlt;have c2:=RB.cell hlt;have s1:=(HA.o k hlt);have s2:=(HB.o k hlt);have RAH:=qh RA;have RBH:=qh RB;clear RA RB;by_cases hlk:k<k0
   ·have hne:(a k != b k)=false:=by rw[EQ.o k hlk];simp
    go_wp2;go_quiet (fail);go_wp2;go_roundw
    case rel=>exact⟨k+1,by omega,by go_num,RAH.o.of_block rfl,RBH.o.of_block rfl,below_drewN GH.o _⟩
    case measure=>simp[intOf];omega
   ·obtain rfl:k=k0:=by omega
    have hne:(a k != b k)=true:=by have:=NE.o hlt;simpa using this
    have Z:=qh (show cmpM 1 a b=clampZ (a k-b k) by rw[E.o,if_pos hlt,clamp_sub]);have ea:=IntWalk.i64_in (a k) (by omega);have eb:=IntWalk.i64_in (b k) (by omega);have es:=IntWalk.i64_in (a k-b k) (by omega)
    rcases Int.lt_or_gt_of_ne (NE.o hlt) with h' | h'
    ·have E2:=qh (show clampZ (a k-b k) = -1 by unfold clampZ;rw[if_neg (by omega),if_pos (by omega)]);go_wp2;go_quiet (fail);go_wp2;go_quiet (fail);go_wp2;go_ret;exact⟨by rw[Z.o,E2.o];rfl,below_drewN (below_drewN GH.o _) _⟩
    ·have E2:=qh (show clampZ (a k-b k)=1 by unfold clampZ;rw[if_pos (by omega)]);go_wp2;go_quiet (fail);go_wp2;go_quiet (fail);go_wp2;go_ret;exact⟨by rw[Z.o,E2.o];rfl,below_drewN (below_drewN GH.o _) _⟩
  ·have Z:=qh (show cmpM 1 a b=0 by rw[E.o,if_neg (by omega)])
   obtain rfl:k=4:=by omega
   go_wp2;go_ret;exact⟨by rw[Z.o];rfl,GH.o⟩
theorem rcmp_fwd (a b:Nat->Int) (o:Int) (h1:(o==1)=false) (h2:(o==2)=false) (w:World) (ha:Small a) (hb:Small b) :
  Calls Tryz.prog 37 #[.int .u8 o,mvf a,mvf b] w fun e w'=>e=.returned (.int .i64 (cmpM o a b))/\Below w.heap.size w w':=by
 have HA:=qh ha;clear ha;have HB:=qh hb;clear hb;have HX:=qh (boxes w 35 a b);have T:=qh (show cmpM o a b=lexM a b by rw[cmpM_tail (fun hh=>absurd hh (by simp at h1 h2;omega))];unfold tailM;rw[if_neg (by simpa using h2)]);go_enter Tryz.func37,Tryz.ntmps37;go_wp2_with fail
 have A5:=qh HX.o.1;have B5:=qh HX.o.2;have G5:=qh (zk.alloc zj _ |>.alloc (by go_size) _:Below w.heap.size w ((w.alloc (.cells (arr4 a) 35)).alloc (.cells (arr4 b) 35)));clear HX;obtain⟨k0,hD⟩:=diff_any a b;have E:=qh ((T.o).trans (lex_diff hD));have h4:=hD.1;have EQ:=qh hD.2.1;have NE:=qh hD.2.2;clear hD;go_loopw [9] (fun i wr=>∃ k:Nat,k<=k0/\i=.int .i64 k/\wr.rowIs w.heap.size 35 4 (cell a)/\wr.rowIs (w.heap.size+1) 35 4 (cell b)/\Below w.heap.size w wr) (fun i _=>4-(intOf i).toNat)
 case atStart=>exact⟨0,by omega,rfl,A5.o,B5.o,G5.o⟩
 case round =>
  obtain⟨k,hk,rfl,RA,RB,G⟩:=hrel;clear A5 B5 G5;have GH:=qh G;clear G;by_cases hlt:k<4
  ·have c1:=RA.cell hlt;have c2:=RB.cell hlt;have s1:=(HA.o k hlt);have s2:=(HB.o k hlt);have RAH:=qh RA;have RBH:=qh RB;clear RA RB;by_cases hlk:k<k0
   ·have hne:(a k != b k)=false:=by rw[EQ.o k hlk];simp
    go_wp2;go_quiet (fail);go_wp2;go_roundw
    case rel=>exact⟨k+1,by omega,by go_num,RAH.o.of_block rfl,RBH.o.of_block rfl,below_drewN GH.o _⟩
    case measure=>simp[intOf];omega
   ·obtain rfl:k=k0:=by omega
    have hne:(a k != b k)=true:=by have:=NE.o hlt;simpa using this
    have Z:=qh (show cmpM o a b=clampZ (a k-b k) by rw[E.o,if_pos hlt,clamp_sub]);have ea:=IntWalk.i64_in (a k) (by omega);have eb:=IntWalk.i64_in (b k) (by omega);have es:=IntWalk.i64_in (a k-b k) (by omega)
    rcases Int.lt_or_gt_of_ne (NE.o hlt) with h' | h'
    ·have E2:=qh (show clampZ (a k-b k) = -1 by unfold clampZ;rw[if_neg (by omega),if_pos (by omega)]);go_wp2;go_quiet (fail);go_wp2;go_quiet (fail);go_wp2;go_ret;exact⟨by rw[Z.o,E2.o];rfl,below_drewN (below_drewN GH.o _) _⟩
    ·have E2:=qh (show clampZ (a k-b k)=1 by unfold clampZ;rw[if_pos (by omega)]);go_wp2;go_quiet (fail);go_wp2;go_quiet (fail);go_wp2;go_ret;exact⟨by rw[Z.o,E2.o];rfl,below_drewN (below_drewN GH.o _) _⟩
  ·have Z:=qh (show cmpM o a b=0 by rw[E.o,if_neg (by omega)])
   obtain rfl:k=4:=by omega
   go_wp2;go_ret;exact⟨by rw[Z.o];rfl,GH.o⟩
theorem rcmp_bwd (a b:Nat->Int) (h:degM a=degM b) (w:World) (ha:Small a) (hb:Small b) :
  Calls Tryz.prog 37 #[.int .u8 2,mvf a,mvf b] w fun e w'=>e=.returned (.int .i64 (cmpM 2 a b))/\Below w.heap.size w w':=by
 have HA:=qh ha;clear ha;have HB:=qh hb;clear hb;have HX:=qh (boxes w 35 a b);have T:=qh (show cmpM 2 a b=lexM (revM b) (revM a) by rw[cmpM_tail (fun _=>h)];rfl);obtain⟨a0,a1,a2,a3⟩:=rows4 HX.o.1;obtain⟨b0,b1,b2,b3⟩:=rows4 HX.o.2;have es:=IntWalk.i64_in (degM a-degM b) (by have:=HA.o 0 (by omega);have:=HA.o 1 (by omega);have:=HA.o 2 (by omega);have:=HA.o 3 (by omega);have:=HB.o 0 (by omega);have:=HB.o 1 (by omega);have:=HB.o 2 (by omega);have:=HB.o 3 (by omega);unfold degM;omega)
 have hz:(degM a-degM b != 0)=false:=by simp;omega
 clear h;go_enter Tryz.func37,Tryz.ntmps37;go_wp2_with fail
 refine wp_region_quiet_below (by kernel_rfl) (by kernel_rfl) ?_
 repeat (go_big_quiet_step (first
  | (go_at_call 107;first | (with_reducible exact Calls.regrown_of (rdegree_any a _ HA.o)) | (with_reducible exact Calls.regrown_of (rdegree_any b _ HB.o)))))
 refine wpQuiet_nil ?_;intro w5 hw5;obtain⟨q,hq⟩:=hw5;have hb5:=below_regrown ((w.alloc (.cells (arr4 a) 35)).alloc (.cells (arr4 b) 35)) q.d q.os;rw[<- show w5=_ from hq] at hb5;clear hq;have A5:=qh (rowBelow HX.o.1 hb5 (by simp;omega));have B5:=qh (rowBelow HX.o.2 hb5 (by simp));have G5:=qh (zk.alloc zj _ |>.alloc (by go_size) _ |>.trans (hb5.mono (by go_size)):Below w.heap.size w w5);clear hb5 es a0 a1 a2 a3 b0 b1 b2 b3 HX;go_wp2_with fail
 obtain⟨k0,hD⟩:=diff_any (revM b) (revM a);have E:=qh ((T.o).trans (lex_diff hD));have h4:=hD.1;have EQ:=qh hD.2.1;have NE:=qh hD.2.2;clear hD;go_loopw [8] (fun i wr=>∃ k:Nat,k<=k0/\i=.int .i64 (3-(k:Int))/\wr.rowIs w.heap.size 35 4 (cell a)/\wr.rowIs (w.heap.size+1) 35 4 (cell b)/\Below w.heap.size w wr) (fun i _=>(1+intOf i).toNat)
 case atStart=>exact⟨0,by omega,rfl,A5.o,B5.o,G5.o⟩
 case round =>
  obtain⟨k,hk,rfl,RA,RB,G⟩:=hrel;clear A5 B5 G5;have GH:=qh G;have RAH:=qh RA;have RBH:=qh RB;clear G RA RB
  have hcases:k=0\/k=1\/k=2\/k=3\/k=4:=by omega
  rcases hcases with rfl | rfl | rfl | rfl | rfl
  ·rw[show((3:Int)-((0:Nat):Int))=3 from rfl];have c1:=RAH.o.cell (i:=3) (by omega);have c2:=RBH.o.cell (i:=3) (by omega);have s1:=HA.o 3 (by omega);have s2:=HB.o 3 (by omega);by_cases hlk:0<k0
   ·have hne:(a 3 != b 3)=false:=by have e:b 3=a 3:=EQ.o 0 hlk;rw[e];simp
    go_wp2;go_quiet (fail);go_wp2;go_roundw
    case rel=>exact⟨1,by omega,by rfl,RAH.o.of_block rfl,RBH.o.of_block rfl,below_drewN GH.o _⟩
    case measure=>simp[intOf]
   ·obtain rfl:k0=0:=by omega
    have hnn:¬b 3=a 3:=NE.o (by omega)
    have hne:(a 3 != b 3)=true:=by simp;omega
    have Z:=qh (show cmpM 2 a b=clampZ (b 3-a 3) by rw[E.o,if_pos (by omega),clamp_sub];rfl);have ea:=IntWalk.i64_in (a 3) (by omega);have eb:=IntWalk.i64_in (b 3) (by omega);have es:=IntWalk.i64_in (b 3-a 3) (by omega)
    rcases Int.lt_or_gt_of_ne hnn with h' | h'
    ·have E2:=qh (show clampZ (b 3-a 3) = -1 by unfold clampZ;rw[if_neg (by omega),if_pos (by omega)]);clear hnn;go_wp2;go_quiet (fail);go_wp2;go_quiet (fail);go_wp2;go_ret;exact⟨by rw[Z.o,E2.o];rfl,below_drewN (below_drewN GH.o _) _⟩
    ·have E2:=qh (show clampZ (b 3-a 3)=1 by unfold clampZ;rw[if_pos (by omega)]);clear hnn;go_wp2;go_quiet (fail);go_wp2;go_quiet (fail);go_wp2;go_ret;exact⟨by rw[Z.o,E2.o];rfl,below_drewN (below_drewN GH.o _) _⟩
  ·rw[show((3:Int)-((1:Nat):Int))=2 from rfl];have c1:=RAH.o.cell (i:=2) (by omega);have c2:=RBH.o.cell (i:=2) (by omega);have s1:=HA.o 2 (by omega);have s2:=HB.o 2 (by omega);by_cases hlk:1<k0
   ·have hne:(a 2 != b 2)=false:=by have e:b 2=a 2:=EQ.o 1 hlk;rw[e];simp
    go_wp2;go_quiet (fail);go_wp2;go_roundw
    case rel=>exact⟨2,by omega,by rfl,RAH.o.of_block rfl,RBH.o.of_block rfl,below_drewN GH.o _⟩
    case measure=>simp[intOf]
   ·obtain rfl:k0=1:=by omega
    have hnn:¬b 2=a 2:=NE.o (by omega)
    have hne:(a 2 != b 2)=true:=by simp;omega
    have Z:=qh (show cmpM 2 a b=clampZ (b 2-a 2) by rw[E.o,if_pos (by omega),clamp_sub];rfl);have ea:=IntWalk.i64_in (a 2) (by omega);have eb:=IntWalk.i64_in (b 2) (by omega);have es:=IntWalk.i64_in (b 2-a 2) (by omega)
    rcases Int.lt_or_gt_of_ne hnn with h' | h'
    ·have E2:=qh (show clampZ (b 2-a 2) = -1 by unfold clampZ;rw[if_neg (by omega),if_pos (by omega)]);clear hnn;go_wp2;go_quiet (fail);go_wp2;go_quiet (fail);go_wp2;go_ret;exact⟨by rw[Z.o,E2.o];rfl,below_drewN (below_drewN GH.o _) _⟩
    ·have E2:=qh (show clampZ (b 2-a 2)=1 by unfold clampZ;rw[if_pos (by omega)]);clear hnn;go_wp2;go_quiet (fail);go_wp2;go_quiet (fail);go_wp2;go_ret;exact⟨by rw[Z.o,E2.o];rfl,below_drewN (below_drewN GH.o _) _⟩
  ·rw[show((3:Int)-((2:Nat):Int))=1 from rfl];have c1:=RAH.o.cell (i:=1) (by omega);have c2:=RBH.o.cell (i:=1) (by omega);have s1:=HA.o 1 (by omega);have s2:=HB.o 1 (by omega);by_cases hlk:2<k0
   ·have hne:(a 1 != b 1)=false:=by have e:b 1=a 1:=EQ.o 2 hlk;rw[e];simp
    go_wp2;go_quiet (fail);go_wp2;go_roundw
    case rel=>exact⟨3,by omega,by rfl,RAH.o.of_block rfl,RBH.o.of_block rfl,below_drewN GH.o _⟩
    case measure=>simp[intOf]
   ·obtain rfl:k0=2:=by omega
    have hnn:¬b 1=a 1:=NE.o (by omega)
    have hne:(a 1 != b 1)=true:=by simp;omega
    have Z:=qh (show cmpM 2 a b=clampZ (b 1-a 1) by rw[E.o,if_pos (by omega),clamp_sub];rfl);have ea:=IntWalk.i64_in (a 1) (by omega);have eb:=IntWalk.i64_in (b 1) (by omega);have es:=IntWalk.i64_in (b 1-a 1) (by omega)
    rcases Int.lt_or_gt_of_ne hnn with h' | h'
    ·have E2:=qh (show clampZ (b 1-a 1) = -1 by unfold clampZ;rw[if_neg (by omega),if_pos (by omega)]);clear hnn;go_wp2;go_quiet (fail);go_wp2;go_quiet (fail);go_wp2;go_ret;exact⟨by rw[Z.o,E2.o];rfl,below_drewN (below_drewN GH.o _) _⟩
    ·have E2:=qh (show clampZ (b 1-a 1)=1 by unfold clampZ;rw[if_pos (by omega)]);clear hnn;go_wp2;go_quiet (fail);go_wp2;go_quiet (fail);go_wp2;go_ret;exact⟨by rw[Z.o,E2.o];rfl,below_drewN (below_drewN GH.o _) _⟩
  ·rw[show((3:Int)-((3:Nat):Int))=0 from rfl];have c1:=RAH.o.cell (i:=0) (by omega);have c2:=RBH.o.cell (i:=0) (by omega);have s1:=HA.o 0 (by omega);have s2:=HB.o 0 (by omega);by_cases hlk:3<k0
   ·have hne:(a 0 != b 0)=false:=by have e:b 0=a 0:=EQ.o 3 hlk;rw[e];simp
    go_wp2;go_quiet (fail);go_wp2;go_roundw
    case rel=>exact⟨4,by omega,by rfl,RAH.o.of_block rfl,RBH.o.of_block rfl,below_drewN GH.o _⟩
    case measure=>simp[intOf]
   ·obtain rfl:k0=3:=by omega
    have hnn:¬b 0=a 0:=NE.o (by omega)
    have hne:(a 0 != b 0)=true:=by simp;omega
    have Z:=qh (show cmpM 2 a b=clampZ (b 0-a 0) by rw[E.o,if_pos (by omega),clamp_sub];rfl);have ea:=IntWalk.i64_in (a 0) (by omega);have eb:=IntWalk.i64_in (b 0) (by omega);have es:=IntWalk.i64_in (b 0-a 0) (by omega)
    rcases Int.lt_or_gt_of_ne hnn with h' | h'
    ·have E2:=qh (show clampZ (b 0-a 0) = -1 by unfold clampZ;rw[if_neg (by omega),if_pos (by omega)]);clear hnn;go_wp2;go_quiet (fail);go_wp2;go_quiet (fail);go_wp2;go_ret;exact⟨by rw[Z.o,E2.o];rfl,below_drewN (below_drewN GH.o _) _⟩
    ·have E2:=qh (show clampZ (b 0-a 0)=1 by unfold clampZ;rw[if_pos (by omega)]);clear hnn;go_wp2;go_quiet (fail);go_wp2;go_quiet (fail);go_wp2;go_ret;exact⟨by rw[Z.o,E2.o];rfl,below_drewN (below_drewN GH.o _) _⟩
  ·rw[show((3:Int)-((4:Nat):Int)) = -1 from rfl];have Z:=qh (show cmpM 2 a b=0 by rw[E.o,if_neg (by omega)]);go_wp2;go_ret;exact⟨by rw[Z.o];rfl,GH.o⟩
theorem rcmp_any (o:Int) (a b:Nat->Int) (w:World) (ha:Small a) (hb:Small b) :
  Calls Tryz.prog 37 #[.int .u8 o,mvf a,mvf b] w fun e w'=>e=.returned (.int .i64 (cmpM o a b))/\Below w.heap.size w w':=by
 by_cases h1:o=1
 ·subst h1;by_cases h:degM a=degM b
  ·exact rcmp_fwd1 a b h w ha hb
  ·exact rcmp_deg1 a b h w ha hb
 ·by_cases h2:o=2
  ·subst h2;by_cases h:degM a=degM b
   ·exact rcmp_bwd a b h w ha hb
   ·exact rcmp_deg2 a b h w ha hb
  ·exact rcmp_fwd a b o (by simpa using h1) (by simpa using h2) w ha hb
end Mono
namespace Pol
def Pr (p:Nat):Prop:=2<=p/\∀ a b:Int,(p:Int) ∣ a*b->(p:Int) ∣ a\/(p:Int) ∣ b
theorem pr_ex:∀ n:Nat,2<=n->∃ p,Pr p/\p ∣ n:=by
 intro n
 induction n using Nat.strongRecOn with
 | ind n ih =>
  intro hn;by_cases hd:∃ d,2<=d/\d<n/\d ∣ n
  ·obtain⟨d,h1,h2,h3⟩:=hd;obtain⟨p,hp,hpd⟩:=ih d h2 h1;exact⟨p,hp,Nat.dvd_trans hpd h3⟩
  ·refine⟨n,⟨hn,fun a b hab=>?_⟩,Nat.dvd_refl n⟩
   have hab':n ∣ a.natAbs*b.natAbs:=by
    have:=Int.natAbs_dvd_natAbs.2 hab;rwa [Int.natAbs_mul,Int.natAbs_natCast] at this
   have hg:Nat.gcd n a.natAbs ∣ n:=Nat.gcd_dvd_left _ _;have hpos:0<Nat.gcd n a.natAbs:=Nat.gcd_pos_of_pos_left _ (by omega);have hle:Nat.gcd n a.natAbs<=n:=Nat.le_of_dvd (by omega) hg;by_cases h1:Nat.gcd n a.natAbs=1
   ·right;have:n ∣ b.natAbs:=Nat.Coprime.dvd_of_dvd_mul_left h1 hab';exact Int.natAbs_dvd_natAbs.1 (by rwa [Int.natAbs_natCast])
   ·left
    have:Nat.gcd n a.natAbs=n:=by
     refine Classical.byContradiction fun hne=>hd ⟨_,?_,?_,hg⟩ <;> omega
    have h2:n ∣ a.natAbs:=by rw[<- this];exact Nat.gcd_dvd_right _ _
    exact Int.natAbs_dvd_natAbs.1 (by rwa [Int.natAbs_natCast])
theorem Pr.one {p:Nat} (h:Pr p):¬(p:Int) ∣ 1:=fun hd=>by
 have:=Int.natAbs_dvd_natAbs.2 hd;rw[Int.natAbs_natCast] at this;have:=Nat.le_of_dvd (by decide) this;have:=h.1;simp at *;omega
structure Prm (P:List Tm):Prop where
 whole:∀ t∈P,∃ z:Int,t.2=(z:Rat)
 alone:∀ p,Pr p->∃ t∈P,∀ z:Int,t.2=(z:Rat)->¬(p:Int) ∣ z
 first:∀ t r,P=t :: r->0<t.2
def IsC (P:List Tm) (c:Rat):Prop:=c≠0/\∃ Q,Prm Q/\P=scaleL c Q
theorem Prm.some {P:List Tm} (h:Prm P):P≠[]:=fun e=>by
 obtain⟨p,hp,_⟩:=pr_ex 2 (Nat.le_refl 2);obtain⟨t,ht,_⟩:=h.alone p hp;rw[e] at ht
 cases ht
theorem cast_inj {a b:Int} (h:(a:Rat)=(b:Rat)):a=b:=Rat.intCast_inj.1 h
theorem den_one {q:Rat} (h:∀ p,Pr p->¬p ∣ q.den):q.den=1:=by
 have:=q.den_pos
 refine Classical.byContradiction fun hne=>?_
 obtain⟨p,hp,hd⟩:=pr_ex q.den (by omega);exact h p hp hd
theorem num_div (q:Rat):(q.num:Rat)/(q.den:Rat)=q:=by rw[<- Rat.mkRat_eq_div];exact Rat.mkRat_self q
theorem num_cast {q:Rat} (h:q.den=1):q=(q.num:Rat):=by
 have:=num_div q;rw[h] at this;grind
theorem cross {u:Rat} {a b:Int} (h:(b:Rat)=u*(a:Rat)):(u.den:Int)*b=u.num*a:=by
 have h1:=num_div u
 have h2:(u.den:Rat)≠0:=by
  have:=u.den_pos;intro e;have:u.den=0:=Rat.natCast_inj.1 (by simpa using e);omega
 apply cast_inj;rw[Rat.intCast_mul,Rat.intCast_mul,h]
 have h3:(u.num:Rat)=u*(u.den:Rat):=by
  rw[<- h1];grind
 rw[h3];have:(((u.den:Nat):Int):Rat)=(u.den:Rat):=Rat.intCast_natCast _;rw[this];grind
theorem ratio_den {u:Rat} {Q R:List Tm} (hQ:Prm Q) (hR:Prm R) (h:∀ t∈Q,∃ s∈R,s.2=u*t.2):u.den=1:=by
 refine den_one fun p hp hd=>?_
 obtain⟨t,ht,hn⟩:=hQ.alone p hp;obtain⟨s,hs,e⟩:=h t ht;obtain⟨a,ha⟩:=hQ.whole t ht;obtain⟨b,hb⟩:=hR.whole s hs;rw[ha,hb] at e;have hc:=cross e;have hpd:(p:Int) ∣ (u.den:Int):=Int.natCast_dvd_natCast.2 hd
 have h1:(p:Int) ∣ u.num*a:=by rw[<- hc];exact Int.dvd_trans hpd (Int.dvd_mul_right _ _)
 rcases hp.2 _ _ h1 with h2 | h2
 ·have h3:p ∣ u.num.natAbs:=by
   have:=Int.natAbs_dvd_natAbs.2 h2;rwa [Int.natAbs_natCast] at this
  have h4:p ∣ Nat.gcd u.num.natAbs u.den:=Nat.dvd_gcd h3 hd;rw[u.reduced] at h4;have:=Nat.le_of_dvd (by decide) h4;have:=hp.1;omega
 ·exact hn a ha h2
theorem scaleL_mem {c:Rat} {Q:List Tm} {t:Tm} (h:t∈Q):(t.1,t.2*c)∈scaleL c Q:=List.mem_map_of_mem (f:=fun t:Tm=>(t.1,t.2*c)) h
theorem scaleL_back {c d:Rat} (hd:d≠0) {Q R:List Tm} (h:scaleL c Q=scaleL d R) {t:Tm} (ht:t∈Q):∃ s∈R,s.1=t.1/\s.2=(c/d)*t.2:=by
 have h1:=scaleL_mem (c:=c) ht;rw[h] at h1;obtain⟨s,hs,(e:(s.1,s.2*d)=(t.1,t.2*c))⟩:=List.mem_map.1 h1;have e1:s.1=t.1:=(Prod.mk.inj e).1;have e2:s.2*d=t.2*c:=(Prod.mk.inj e).2;refine⟨s,hs,e1,?_⟩
 have:s.2=s.2*d/d:=by grind
 rw[this,e2];grind
theorem IsC.uniq {P:List Tm} {c d:Rat} (hc:IsC P c) (hd:IsC P d):c=d:=by
 obtain⟨c0,Q,hQ,e1⟩:=hc;obtain⟨d0,R,hR,e2⟩:=hd
 have hqr:∀ t∈Q,∃ s∈R,s.2=(c/d)*t.2:=fun t ht=>by
  obtain⟨s,hs,_,e⟩:=scaleL_back d0 (e1.symm.trans e2) ht;exact⟨s,hs,e⟩
 have hrq:∀ t∈R,∃ s∈Q,s.2=(d/c)*t.2:=fun t ht=>by
  obtain⟨s,hs,_,e⟩:=scaleL_back c0 (e2.symm.trans e1) ht;exact⟨s,hs,e⟩
 have k1:=num_cast (ratio_den hQ hR hqr);have k2:=num_cast (ratio_den hR hQ hrq)
 have k3:(c/d)*(d/c)=1:=by grind
 rw[k1,k2,<- Rat.intCast_mul] at k3;have k4:(c/d).num*(d/c).num=1:=cast_inj (by rw[k3];rfl)
 have k5:(c/d).num=1\/(c/d).num = -1:=by
  have:=congrArg Int.natAbs k4;rw[Int.natAbs_mul] at this;have:=Nat.eq_one_of_mul_eq_one_right this;omega
 have pos:0<c/d:=by
  match Q,R,hQ,hR,e1,e2 with
  | [],_,hQ,_,_,_=>exact absurd rfl hQ.some
  | _ :: _,[],_,hR,_,_=>exact absurd rfl hR.some
  | t :: q,s :: r,hQ,hR,e1,e2 =>
   have e3:=e1.symm.trans e2;unfold scaleL at e3;rw[List.map_cons,List.map_cons] at e3;have e4:t.2*c=s.2*d:=congrArg Prod.snd (List.cons.inj e3).1;have t0:=hQ.first t q rfl;have s0:=hR.first s r rfl
   have e5:c/d=s.2/t.2:=by grind
   rw[e5];rw[Rat.div_def];exact Rat.mul_pos s0 (Rat.inv_pos.2 t0)
 rcases k5 with k | k
 ·rw[k] at k1;have:c/d=1:=k1;grind
 ·rw[k] at k1;rw[k1] at pos;exact absurd pos (by decide)
end Pol
namespace Pol
def Wz (q:Rat):Prop:=∃ z:Int,q=(z:Rat)
theorem Wz.add {a b:Rat} (h:Wz a) (k:Wz b):Wz (a+b):=by
 obtain⟨x,rfl⟩:=h;obtain⟨y,rfl⟩:=k;exact⟨x+y,(Rat.intCast_add x y).symm⟩
theorem Wz.mul {a b:Rat} (h:Wz a) (k:Wz b):Wz (a*b):=by
 obtain⟨x,rfl⟩:=h;obtain⟨y,rfl⟩:=k;exact⟨x*y,(Rat.intCast_mul x y).symm⟩
theorem Wz.zero:Wz 0:=⟨0,rfl⟩
theorem Wz.one:Wz 1:=⟨1,rfl⟩
theorem ev_wz {f:Mo->Rat} (hf:∀ m,Wz (f m)):∀ {L:List Tm},(∀ t∈L,Wz t.2)->Wz (ev L f)
 | [],_=>Wz.zero
 | t :: _,h=>((h t (List.mem_cons_self ..)).mul (hf t.1)).add (ev_wz hf fun s hs=>h s (List.mem_cons_of_mem _ hs))
theorem at_wz (m a:Mo):Wz (at_ m a):=by
 unfold at_;split
 ·exact Wz.one
 ·exact Wz.zero
def Dz (p:Nat) (q:Rat):Prop:=∃ z:Int,q=(((p:Int)*z:Int):Rat)
theorem Dz.zero (p:Nat):Dz p 0:=⟨0,by rw[Int.mul_zero];rfl⟩
theorem Dz.add {p:Nat} {a b:Rat} (h:Dz p a) (k:Dz p b):Dz p (a+b):=by
 obtain⟨x,rfl⟩:=h;obtain⟨y,rfl⟩:=k;exact⟨x+y,by rw[Int.mul_add,Rat.intCast_add]⟩
theorem Dz.mul {p:Nat} {a b:Rat} (h:Dz p a) (k:Wz b):Dz p (a*b):=by
 obtain⟨x,rfl⟩:=h;obtain⟨y,rfl⟩:=k;exact⟨x*y,by rw[<- Int.mul_assoc,Rat.intCast_mul _ y]⟩
theorem Dz.mul' {p:Nat} {a b:Rat} (h:Wz a) (k:Dz p b):Dz p (a*b):=by rw[Rat.mul_comm];exact k.mul h
theorem ev_dz {p:Nat} {f:Mo->Rat}:∀ {L:List Tm},(∀ t∈L,Dz p (t.2*f t.1))->Dz p (ev L f)
 | [],_=>Dz.zero p
 | t :: _,h=>(h t (List.mem_cons_self ..)).add (ev_dz fun s hs=>h s (List.mem_cons_of_mem _ hs))
theorem ev_but {p:Nat} {f:Mo->Rat} {a:Tm}:∀ {L:List Tm},Canon L->a∈L->(∀ t∈L,t≠a->Dz p (t.2*f t.1))->∃ q,Dz p q/\ev L f=a.2*f a.1+q
 | [],_,h,_=>by cases h
 | t :: r,hc,ha,h=>by
  by_cases he:t=a
  ·subst he;refine⟨ev r f,ev_dz fun s hs=>h s (List.mem_cons_of_mem _ hs) fun e=>?_,rfl⟩;have:=hc.head s hs;rw[e] at this;exact Mo.lt_irrefl _ this
  ·have ha':a∈r:=by
    rcases List.mem_cons.1 ha with e | e
    ·exact absurd e.symm he
    ·exact e
   obtain⟨q,hq,e⟩:=ev_but hc.tail ha' fun s hs=>h s (List.mem_cons_of_mem _ hs)
   refine⟨t.2*f t.1+q,(h t (List.mem_cons_self ..) he).add hq,?_⟩;rw[ev_cons,e];grind
theorem ev_only {f:Mo->Rat} {a:Tm}:∀ {L:List Tm},Canon L->a∈L->(∀ t∈L,t≠a->f t.1=0)->ev L f=a.2*f a.1
 | [],_,h,_=>by cases h
 | t :: r,hc,ha,h=>by
  by_cases he:t=a
  ·subst he
   have:ev r f=ev r (fun _=>0):=ev_congr fun s hs=>h s (List.mem_cons_of_mem _ hs) fun e=>by
    have:=hc.head s hs;rw[e] at this;exact Mo.lt_irrefl _ this
   rw[ev_cons,this,ev_zero,Rat.add_zero]
  ·have ha':a∈r:=by
    rcases List.mem_cons.1 ha with e | e
    ·exact absurd e.symm he
    ·exact e
   rw[ev_cons,h t (List.mem_cons_self ..) he,ev_only hc.tail ha' fun s hs=>h s (List.mem_cons_of_mem _ hs)];grind
theorem Mo.mul_lt {a b s t:Mo} (h:s.lt a) (e:s.mul t=a.mul b):b.lt t:=by
 rw[Mo.eq_iff] at e;simp only[Mo.mul,Mo.lt] at *;omega
theorem Mo.mul_lt_mul {a b s t:Mo} (h:s=a\/s.lt a) (k:t=b\/t.lt b):s.mul t=a.mul b\/(s.mul t).lt (a.mul b):=by
 simp only[Mo.eq_iff] at *;simp only[Mo.mul,Mo.lt] at *;omega
theorem Canon.inj {L:List Tm} (h:Canon L) {s t:Tm} (hs:s∈L) (ht:t∈L) (e:s.1=t.1):s=t :=
 Prod.ext e (by rw[<- h.cf_mem hs,<- h.cf_mem ht,e])
theorem top_ex {N:Tm->Prop}:∀ {L:List Tm},Canon L->(∃ t∈L,N t)->∃ a∈L,N a/\∀ s∈L,N s->s=a\/s.1.lt a.1
 | [],_,h=>by obtain⟨t,ht,_⟩:=h;cases ht
 | t :: r,hc,h=>by
  by_cases hn:N t
  ·refine⟨t,List.mem_cons_self ..,hn,fun s hs _=>?_⟩
   rcases List.mem_cons.1 hs with e | e
   ·exact Or.inl e
   ·exact Or.inr (hc.head s e)
  ·have h':∃ t∈r,N t:=by
    obtain⟨s,hs,hns⟩:=h
    rcases List.mem_cons.1 hs with e | e
    ·rw[e] at hns;exact absurd hns hn
    ·exact⟨s,e,hns⟩
   obtain⟨a,ha,hna,hs⟩:=top_ex hc.tail h';refine⟨a,List.mem_cons_of_mem _ ha,hna,fun s hs' hns=>?_⟩
   rcases List.mem_cons.1 hs' with e | e
   ·rw[e] at hns;exact absurd hns hn
   ·exact hs s e hns
theorem cf_mulL (P Q:List Tm) (m:Mo):cf (mulL P Q) m=ev P (fun x=>ev Q (fun y=>at_ m (x.mul y))):=ev_mulL P Q _
theorem mulP_val {P Q:List Tm} {t:Tm} (h:t∈mulP P Q):t.2=cf (mulL P Q) t.1:=by
 have:=(mulP_canon P Q).cf_mem h;rw[<- this];exact nf_cf _ _
theorem gauss_at {P Q:List Tm} (hP:Canon P) (hQ:Canon Q) {p:Nat} (wP:∀ t∈P,Wz t.2) (wQ:∀ t∈Q,Wz t.2) {a b:Tm} (ha:a∈P) (hb:b∈Q)
  (ma:∀ s∈P,¬Dz p s.2->s=a\/s.1.lt a.1) (mb:∀ s∈Q,¬Dz p s.2->s=b\/s.1.lt b.1):∃ q,Dz p q/\cf (mulL P Q) (a.1.mul b.1)=a.2*b.2+q:=by
 rw[cf_mulL]
 have hw:∀ x:Mo,Wz (ev Q (fun y=>at_ (a.1.mul b.1) (x.mul y))):=fun x=>ev_wz (fun m=>at_wz _ _) wQ
 have h1:ev Q (fun y=>at_ (a.1.mul b.1) (a.1.mul y))=b.2:=by
  rw[ev_only hQ hb fun t ht hne=>?_]
  ·unfold at_;rw[if_pos rfl,Rat.mul_one]
  ·unfold at_;rw[if_neg];intro e;exact hne (hQ.inj ht hb (Mo.mul_left_cancel e))
 obtain⟨q,hq,e⟩:=ev_but (p:=p) (f:=fun x=>ev Q (fun y=>at_ (a.1.mul b.1) (x.mul y))) hP ha fun s hs hne=>by
  by_cases hd:Dz p s.2
  ·exact hd.mul (hw _)
  ·have hlt:s.1.lt a.1:=(ma s hs hd).resolve_left hne;refine Dz.mul' (wP s hs) (ev_dz fun t ht=>?_);by_cases he:s.1.mul t.1=a.1.mul b.1
   ·have hbt:=Mo.mul_lt hlt he
    have hdt:Dz p t.2:=Classical.byContradiction fun hn=>by
     rcases mb t ht hn with e | e
     ·rw[e] at hbt;exact Mo.lt_irrefl _ hbt
     ·exact Mo.lt_asymm hbt e
    exact hdt.mul (at_wz _ _)
   ·unfold at_;rw[if_neg he,Rat.mul_zero];exact Dz.zero p
 refine⟨q,hq,?_⟩;rw[e,h1]
theorem mulL_whole {P Q:List Tm} (wP:∀ t∈P,Wz t.2) (wQ:∀ t∈Q,Wz t.2) (m:Mo):Wz (cf (mulL P Q) m):=by
 rw[cf_mulL];exact ev_wz (fun x=>ev_wz (fun y=>at_wz _ _) wQ) wP
theorem head_mul {s t:Tm} {P Q:List Tm} (hP:Canon (s :: P)) (hQ:Canon (t :: Q)):∃ R,mulP (s :: P) (t :: Q)=(s.1.mul t.1,s.2*t.2) :: R:=by
 have mP:∀ u∈s :: P,u.1=s.1\/u.1.lt s.1:=fun u hu=>by
  rcases List.mem_cons.1 hu with e | e
  ·rw[e];exact Or.inl rfl
  ·exact Or.inr (hP.head u e)
 have mQ:∀ u∈t :: Q,u.1=t.1\/u.1.lt t.1:=fun u hu=>by
  rcases List.mem_cons.1 hu with e | e
  ·rw[e];exact Or.inl rfl
  ·exact Or.inr (hQ.head u e)
 have hcf:cf (mulL (s :: P) (t :: Q)) (s.1.mul t.1)=s.2*t.2:=by
  rw[cf_mulL,ev_only hP (List.mem_cons_self ..) fun u hu hne=>?_,ev_only hQ (List.mem_cons_self ..) fun u hu hne=>?_]
  ·unfold at_;rw[if_pos rfl,Rat.mul_one]
  ·unfold at_;rw[if_neg];intro e;exact hne (hQ.inj hu (List.mem_cons_self ..) (Mo.mul_left_cancel e))
  ·have hlt:u.1.lt s.1:=by
    rcases mP u hu with e | e
    ·exact absurd (hP.inj hu (List.mem_cons_self ..) e) hne
    ·exact e
   have:ev (t :: Q) (fun y=>at_ (s.1.mul t.1) (u.1.mul y))=ev (t :: Q) (fun _=>0):=ev_congr fun v hv=>by
    unfold at_;rw[if_neg];intro e;have:=Mo.mul_lt hlt e
    rcases mQ v hv with e | e
    ·rw[e] at this;exact Mo.lt_irrefl _ this
    ·exact Mo.lt_asymm this e
   rw[this,ev_zero]
 have hne:s.2*t.2≠0:=fun e=>by
  rcases Rat.mul_eq_zero.1 e with e | e
  ·exact hP.non s (List.mem_cons_self ..) e
  ·exact hQ.non t (List.mem_cons_self ..) e
 have hcf2:cf (mulP (s :: P) (t :: Q)) (s.1.mul t.1)=s.2*t.2:=by
  unfold mulP;rw[nf_cf,hcf]
 obtain⟨c,hc⟩:=Canon.mem_cf (l:=mulP (s :: P) (t :: Q)) (m:=s.1.mul t.1) (by rw[hcf2];exact hne);have hcan:=mulP_canon (s :: P) (t :: Q);have hc2:c=s.2*t.2:=(hcan.cf_mem hc).symm.trans hcf2;subst hc2
 match hM:mulP (s :: P) (t :: Q) with
 | []=>rw[hM] at hc;cases hc
 | v :: R =>
  rw[hM] at hc hcan;refine⟨R,?_⟩
  rcases List.mem_cons.1 hc with e | e
  ·rw[e]
  ·exfalso;have h1:=hcan.head _ e
   have h2:cf (mulL (s :: P) (t :: Q)) v.1≠0:=by
    rw[<- nf_cf];have h3:cf (v :: R) v.1=v.2:=hcan.cf_head;rw[<- hM] at h3;unfold mulP at h3;rw[h3];exact hcan.non v (List.mem_cons_self ..)
   apply h2
   refine cf_none fun u hu he=>?_
   obtain⟨x,hx,hu⟩:=List.mem_flatMap.1 hu;obtain⟨y,hy,rfl⟩:=List.mem_map.1 hu;have h4:=Mo.mul_lt_mul (mP x hx) (mQ y hy);rw[show x.1.mul y.1=v.1 from he] at h4
   rcases h4 with h4 | h4
   ·rw[h4] at h1;exact Mo.lt_irrefl _ h1
   ·exact Mo.lt_asymm h1 h4
theorem Prm.mul {P Q:List Tm} (hP:Canon P) (hQ:Canon Q) (pP:Prm P) (pQ:Prm Q):Prm (mulP P Q):=by
 refine⟨fun t ht=>?_,fun p hp=>?_,fun t r e=>?_⟩
 ·rw[mulP_val ht];exact mulL_whole pP.whole pQ.whole _
 ·have tP:∃ t∈P,¬Dz p t.2:=by
   obtain⟨t,ht,hn⟩:=pP.alone p hp;exact⟨t,ht,fun ⟨z,hz⟩=>hn _ hz ⟨z,rfl⟩⟩
  have tQ:∃ t∈Q,¬Dz p t.2:=by
   obtain⟨t,ht,hn⟩:=pQ.alone p hp;exact⟨t,ht,fun ⟨z,hz⟩=>hn _ hz ⟨z,rfl⟩⟩
  obtain⟨a,ha,na,ma⟩:=top_ex (N:=fun t=>¬Dz p t.2) hP tP;obtain⟨b,hb,nb,mb⟩:=top_ex (N:=fun t=>¬Dz p t.2) hQ tQ;obtain⟨q,hq,e⟩:=gauss_at hP hQ pP.whole pQ.whole ha hb ma mb;obtain⟨x,hx⟩:=pP.whole a ha;obtain⟨y,hy⟩:=pQ.whole b hb
  have hxy:¬Dz p (cf (mulL P Q) (a.1.mul b.1)):=fun hd=>by
   rw[e,hx,hy] at hd;obtain⟨u,hu⟩:=hd;obtain⟨v,hv⟩:=hq;rw[hv,<- Rat.intCast_mul,<- Rat.intCast_add] at hu;have h1:=cast_inj hu;have h2:(p:Int) ∣ x*y:=⟨u-v,by rw[Int.mul_sub];omega⟩
   rcases hp.2 x y h2 with ⟨c,hc⟩ | ⟨c,hc⟩
   ·exact na ⟨c,by rw[hx,hc]⟩
   ·exact nb ⟨c,by rw[hy,hc]⟩
  have h0:cf (mulP P Q) (a.1.mul b.1)≠0:=fun h0=>by
   unfold mulP at h0;rw[nf_cf] at h0;rw[h0] at hxy;exact hxy (Dz.zero p)
  obtain⟨c,hc⟩:=Canon.mem_cf h0;refine⟨_,hc,fun z hz hd=>hxy ?_⟩;have h3:=mulP_val hc;rw[<- h3];obtain⟨y,rfl⟩:=hd;exact⟨y,hz⟩
 ·match P,Q,hP,hQ,pP,pQ,e with
  | [],_,_,_,pP,_,_=>exact absurd rfl pP.some
  | _ :: _,[],_,_,_,pQ,_=>exact absurd rfl pQ.some
  | s :: P,u :: Q,hP,hQ,pP,pQ,e =>
   obtain⟨R,h⟩:=head_mul hP hQ;rw[h] at e;have:=(List.cons.inj e).1;rw[<- this];exact Rat.mul_pos (pP.first s P rfl) (pQ.first u Q rfl)
theorem scaleL_canon {c:Rat} (hc:c≠0) {P:List Tm} (h:Canon P):Canon (scaleL c P):=by
 refine⟨?_,fun t ht=>?_⟩
 ·unfold scaleL;rw[List.pairwise_map];exact h.falls
 ·obtain⟨s,hs,rfl⟩:=List.mem_map.1 ht;intro e
  rcases Rat.mul_eq_zero.1 e with e | e
  ·exact h.non s hs e
  ·exact hc e
theorem scaleP_L {c:Rat} (hc:c≠0) {P:List Tm} (h:Canon P):scaleP c P=scaleL c P:=nf_self (scaleL_canon hc h)
theorem scaleL_two (c d:Rat) (P:List Tm):scaleL c (scaleL d P)=scaleL (d*c) P:=by
 unfold scaleL;rw[List.map_map]
 refine List.map_congr_left fun t _=>?_
 show(t.1,t.2*d*c)=(t.1,t.2*(d*c));rw[Rat.mul_assoc]
theorem scaleL_one (P:List Tm):scaleL 1 P=P:=by
 unfold scaleL
 conv=>rhs;rw[<- List.map_id P]
 exact List.map_congr_left fun t _=>by
  show(t.1,t.2*1)=t;rw[Rat.mul_one]
theorem IsC.canon {P Q:List Tm} {c:Rat} (hc:c≠0) (hP:Canon P) (e:P=scaleL c Q):Canon Q:=by
 have:Q=scaleL c⁻¹ P:=by
  rw[e,scaleL_two,show c*c⁻¹=1 from Rat.mul_inv_cancel _ hc,scaleL_one]
 rw[this];exact scaleL_canon (fun h=>(by have:=Rat.mul_inv_cancel c hc;rw[h,Rat.mul_zero] at this;exact absurd this.symm (by decide))) hP
theorem IsC.mul {P Q:List Tm} {c d:Rat} (hP:Canon P) (hQ:Canon Q) (h:IsC P c) (k:IsC Q d):IsC (mulP P Q) (c*d):=by
 obtain⟨c0,P',pP,e⟩:=h;obtain⟨d0,Q',pQ,k⟩:=k;have cP:=IsC.canon c0 hP e;have cQ:=IsC.canon d0 hQ k
 have hcd:c*d≠0:=fun h0=>(Rat.mul_eq_zero.1 h0).elim c0 d0
 refine⟨hcd,mulP P' Q',Prm.mul cP cQ pP pQ,?_⟩;rw[<- scaleP_L hcd (mulP_canon _ _)]
 refine canon_same (mulP_canon _ _) (scaleP_canon _ _) fun f=>?_
 rw[ev_mulP,ev_scaleP,ev_mulP,e,k,ev_scaleL]
 have:(fun a:Mo=>ev (scaleL d Q') (fun b=>f (a.mul b)))=fun a=>d*ev Q' (fun b=>f (a.mul b)):=funext fun a=>ev_scaleL _ _ _
 rw[this,ev_smul];grind
end Pol
namespace Pol
end Pol
namespace Pol
end Pol
namespace Limb
open Go.RowKit Go.Sort
theorem info32:(Tryz.prog.info? 128).map (fun i=>(i.zero,i.size,i.bytes))=some (some (.int .u32 0),1,4):=by kernel_rfl
def ucs (o:Nat->Int) (n:Nat):List Value:=(List.range n).map (uc o)
theorem ucs_len (o:Nat->Int) (n:Nat):(ucs o n).length=n:=by simp[ucs]
theorem ucs_get (o:Nat->Int) (n i:Nat) (h:i<n):(ucs o n)[i]?=some (uc o i):=by simp[ucs,h]
theorem ucs_get' {o:Nat->Int} {n j:Nat} {u:Value} (h:(ucs o n)[j]?=some u):j<n/\u=uc o j:=by
 have hj:j<n:=by
  rcases Nat.lt_or_ge j n with h1 | h1
  ·exact h1
  ·rw[List.getElem?_eq_none (by rw[ucs_len];exact h1)] at h;cases h
 rw[ucs_get o n j hj] at h;exact⟨hj,by cases h;rfl⟩
theorem ucs_succ (o:Nat->Int) (n:Nat):ucs o (n+1)=ucs o n++[uc o n]:=by simp[ucs,List.range_succ]
theorem ucs_one {o:Nat->Int} {n:Nat}:∀ u∈ucs o n,u.oneCell'=true:=by
 intro u hu;obtain⟨i,_,rfl⟩:=List.mem_map.1 hu;rfl
theorem Own.of_row {w:World} {base:Nat} {v:Value} {n:Nat} {o:Nat->Int} (h:w.ownsRow base 128 1 v n (ucs o n)) (hr:∀ i,i<n->0<=o i/\o i<=4294967295) :
  ∃ a cap,v=.slice a n cap/\Own 128 w base a n cap o/\(a=none->cap=0):=by
 rcases h.2 with ⟨rfl,rfl⟩ | ⟨g,cap,cur,rfl,hb,hg,hnc,_,hsz,hx⟩
 ·exact⟨none,0,rfl,⟨zj,Or.inl ⟨rfl,rfl,rfl⟩,hr⟩,fun _=>rfl⟩
 ·refine⟨_,cap,rfl,⟨hnc,Or.inr ⟨g,cur,rfl,hb,hg,by omega,fun i hi=>?_⟩,hr⟩,fun h=>by cases h⟩;have h1:=ucs_get o n i hi;rw[<- hx,List.getElem?_take,if_pos (by omega),Array.getElem?_toList] at h1;exact h1
theorem Own.row_nil (w:World) (base:Nat) (o:Nat->Int):w.ownsRow base 128 1 (.slice none 0 0) 0 (ucs o 0):=⟨rfl,Or.inl ⟨rfl,rfl⟩⟩
theorem q22 (w:World) (a:Option Addr) (n c n' c':Nat):(binOp .eql 28 (.slice a n c) (.slice none n' c')).run Tryz.prog w=.ok (.bool a.isNone) w:=Lib.run_eql_slice_nil w _ _ a n c n' c' Tryz.underlying28
theorem clone_any (a:Option Addr) (n cap:Nat) (o:Nat->Int) (w:World) (h:Rd w a n o) (hn:n<=1000000000) :
  Calls Tryz.prog 227 #[.slice a n cap] w fun e w'=>∃ a' cap',e=.returned (.slice a' n cap')/\Own 128 w' w.heap.size a' n cap' o/\(a'=none->cap'=0)/\Below w.heap.size w w':=by
 have q:=q22
 cases a with
 | none =>
  obtain rfl:n=0:=by
   rcases Nat.eq_zero_or_pos n with h0 | h0
   ·exact h0
   ·obtain⟨b,off,e,_⟩:=h.cells h0;cases e
  clear h;go_enter Tryz.func227,Tryz.ntmps227;go_wp2;go_ret
  exact⟨none,0,rfl,⟨zj,Or.inl ⟨rfl,rfl,rfl⟩,fun i hi=>by omega⟩,fun _=>rfl,zk⟩
 | some p =>
  obtain⟨b,off,pt⟩:=p;obtain⟨i0,hi,hz0,hz1,hz2⟩:=info_parts info32;have u22:∀ w,Sem.run Tryz.prog (underlying 28) w=.ok (TypeDesc.slice 128) w:=run_underlying Tryz.underlying28;have HC:=qh h;clear h;go_enter Tryz.func227,Tryz.ntmps227;go_wp2_with (at_builtin;refine wpList_append_own _ rfl _ _ 28 rfl w.heap.size 128 i0 (.int .u32 0) 1 4 Tryz.underlying28 hi hz0 hz1 hz2 rfl (by decide) _ _ _ rfl (World.ownsRow_made w #[] 0 zj (Nat.zero_le _) rfl) ⟨b,off,pt⟩ n cap (ucs o n) rfl ?qc1 ?qc2 ?qc3 ?qc4 ?qc5 ?qc6 ?_)
  case qc1=>rw[ucs_len];omega
  case qc2 =>
   intro j u hj;obtain⟨hjn,rfl⟩:=ucs_get' hj;obtain⟨b',off',e,hc⟩:=HC.o.cells (by omega)
   cases e
   rw[Addr.add_lit];exact Lib.cell?_alloc_some _ (hc j hjn)
  case qc3=>exact ucs_one
  case qc4=>unfold maxLen;omega
  case qc5=>omega
  case qc6=>simp
  intro v' w1 hown hgrow hnil
  have hown:w1.ownsRow w.heap.size 128 1 v' n (ucs o n):=by simpa using hown
  obtain⟨a',cap',rfl,hO,hN⟩:=Own.of_row hown HC.o.rng;have hg2:=((Below.refl _ w).alloc zj _).grown hgrow (by simp) (by intro k hk;simp[Value.ownBlock] at hk;omega);clear hown hgrow hnil;go_wp2;go_ret;exact⟨a',cap',rfl,hO,hN,hg2⟩
theorem Own.of_rowIs {w:World} {g base n:Nat} {o:Nat->Int} (h:w.rowIs g 128 n (uc o)) (hb:base<=g) (hr:∀ i,i<n->0<=o i/\o i<=4294967295):Own 128 w base (some ⟨g,0,none⟩) n n o:=by
 obtain⟨c,hg,hn,hc⟩:=h;exact⟨zj,Or.inr ⟨g,c,rfl,hb,hg,by omega,hc⟩,hr⟩
def upto (o:Nat->Int) (k i:Nat):Value:=if i<k then uc o i else .int .u32 0
theorem row_step {w:World} {g n k:Nat} {o:Nat->Int} (h:w.rowIs g 128 n (upto o k)):(w.setCell ⟨g,k,none⟩ (uc o k)).rowIs g 128 n (upto o (k+1)) :=
 (h.set k (uc o k)).congr fun i hi=>by
  unfold upto;by_cases e:i=k
  ·subst e;rw[if_pos rfl,if_pos (by omega)]
  ·rw[if_neg e];by_cases e2:i<k
   ·rw[if_pos e2,if_pos (by omega)]
   ·rw[if_neg e2,if_neg (by omega)]
theorem tdiv_facts (x:Int):∃ Q R:Int,x.tdiv 1000000000=Q/\x.tmod 1000000000=R/\x=1000000000*Q+R/\((0<=x/\0<=R/\R<1000000000)\/(x<0/\-1000000000<R/\R<=0)):=by
 rcases Int.lt_or_le x 0 with h | h
 ·obtain⟨y,rfl⟩:∃ y,x = -y:=⟨-x,by omega⟩;refine⟨_,_,rfl,rfl,?_,Or.inr ⟨h,?_,?_⟩⟩
  ·rw[Int.neg_tdiv,Int.neg_tmod,Int.tdiv_eq_ediv_of_nonneg (by omega),Int.tmod_eq_emod_of_nonneg (by omega)];omega
  ·rw[Int.neg_tmod,Int.tmod_eq_emod_of_nonneg (by omega)];omega
  ·rw[Int.neg_tmod,Int.tmod_eq_emod_of_nonneg (by omega)];omega
 ·refine⟨_,_,rfl,rfl,?_,Or.inl ⟨h,?_,?_⟩⟩
  ·rw[Int.tdiv_eq_ediv_of_nonneg h,Int.tmod_eq_emod_of_nonneg h];omega
  ·rw[Int.tmod_eq_emod_of_nonneg h];omega
  ·rw[Int.tmod_eq_emod_of_nonneg h];omega
theorem carry_step (f:Nat->Int) (k:Nat):∃ Q R:Int,(f k+cS f k).tdiv 1000000000=Q/\(f k+cS f k).tmod 1000000000=R/\-1000000000<R/\R<1000000000 /\
  (R<0->cS f (k+1)=Q-1/\cD f k=R+1000000000)/\(0<=R->cS f (k+1)=Q/\cD f k=R):=by
 obtain⟨Q,R,h1,h2,h3,h4⟩:=tdiv_facts (f k+cS f k);refine⟨Q,R,h1,h2,by omega,by omega,fun h=>?_,fun h=>?_⟩
 ·unfold cD;rw[cS];omega
 ·unfold cD;rw[cS];omega
theorem carry_any (G:Nat) (cs:Array Value) (n:Nat) (f:Nat->Int) (lo hi:Int) (w:World) (hn:n<=1000000000)
  (hcf:∀ (args:Array Value) (w:World),(callFunc G args).run Tryz.prog w=.ok (.enter G args) w)
  (hF:∀ k,k<n->∀ w1,Below w.heap.size w w1->Calls Tryz.prog G (#[.int .i64 k]++cs) w1 fun e w'=>e=.returned (.int .i64 (f k))/\Below w1.heap.size w1 w')
  (hf:∀ k,k<n->lo*999999999<=f k/\f k<=hi*999999999) (hl:-2000000000<=lo) (hl0:lo<=0) (hh:hi<=2000000000) (hh0:0<=hi) :
  Calls Tryz.prog 207 #[.int .i64 n,.func (.func G) #[] cs] w fun e w'=>e=.returned (.slice (some ⟨w.heap.size,0,none⟩) n n)/\Own 128 w' w.heap.size (some ⟨w.heap.size,0,none⟩) n n (cD f)/\Below w.heap.size w w':=by
 have HF:=qh hF;clear hF;have HB:=qh hf;clear hf;have hmk:=run_make_row' (P:=Tryz.prog) 28 128 (.int .u32 0) 4 Tryz.underlying28 info32 rfl .i64 .i64 n (by omega) (by omega);go_enter Tryz.func207,Tryz.ntmps207;go_wp2;go_loopw [6,13] (fun on i wr=>∃ k:Nat,k<=n/\on=.int .i64 (cS f k)/\i=.int .i64 k/\wr.rowIs w.heap.size 128 n (upto (cD f) k)/\Below w.heap.size w wr) (fun _ i _=>n-(intOf i).toNat)
 case atStart=>exact⟨0,by omega,rfl,rfl,(World.rowIs_made w (.int .u32 0) n 128).congr (fun i _=>by unfold upto;rw[if_neg (by omega)]),qg⟩
 case round =>
  obtain⟨k,hk,rfl,rfl,R,hb⟩:=hrel;have HR:=qh R;have HW:=qh hb;clear R hb;by_cases hkn:k<n
  ·obtain⟨Q,M,e1,e2,h3,h4,h5,h6⟩:=carry_step f k;have b1:=HB.o k hkn
   have b2:=cS_bd hl0 hh0 (n:=k) fun i hi=>HB.o i (by omega)
   have b3:=cS_bd hl0 hh0 (n:=k+1) fun i hi=>HB.o i (by omega)
   have C1:=HF.o k hkn wr HW.o;clear hmk;go_wp2_with fail
   refine C1.mono ?_;rintro e w2 ⟨rfl,hb2⟩;have R2:=qh (HR.o.of_block (hb2.block _ HR.o.lt));have W2:=qh (HW.o.trans (hb2.mono HW.o.size));obtain⟨vo,hco⟩:∃ v,w2.cell? ⟨w.heap.size,k,none⟩=some v:=⟨_,R2.o.cell hkn⟩;have hfz:=R2.o.frozen k;have ea:=IntWalk.i64_in (f k+cS f k) (by omega);clear hb2 C1 HR HW;by_cases hM:M<0
   ·obtain⟨h7,h8⟩:=h5 hM;rw[h7] at b3;have H7:=qh h7;have H8:=qh h8;have eu:=IntWalk.u32_in (M+1000000000) (by omega);clear h5 h6 h7 h8 b1 b2;go_wp2;go_roundw
    case rel=>exact⟨k+1,by omega,by rw[H7.o],by go_num,by have h:=row_step R2.o;rw[show uc (cD f) k=.int .u32 (M+1000000000) by show Value.int .u32 (cD f k)=_;rw[H8.o]] at h;exact h,by have:=W2.o;exact qg⟩
    case measure=>simp[intOf];omega
   ·obtain⟨h7,h8⟩:=h6 (by omega);rw[h7] at b3;have H7:=qh h7;have H8:=qh h8;have eu:=IntWalk.u32_in M (by omega);clear h5 h6 h7 h8 b1 b2;go_wp2;go_roundw
    case rel=>exact⟨k+1,by omega,by rw[H7.o],by go_num,by have h:=row_step R2.o;rw[show uc (cD f) k=.int .u32 M by show Value.int .u32 (cD f k)=_;rw[H8.o]] at h;exact h,by have:=W2.o;exact qg⟩
    case measure=>simp[intOf];omega
  ·obtain rfl:k=n:=by omega
   clear hmk;go_wp2;go_ret;exact⟨rfl,Own.of_rowIs (HR.o.congr fun i hi=>by unfold upto;rw[if_pos hi]) zj (fun i hi=>by have:=cD_Dig f k i hi;omega),HW.o⟩
end Limb
namespace Mono
theorem mul_true {a b:Nat->Int} (h:mulB a b=true) (k:Nat):mulM a b k=a k+b k:=by simp[mulM,h]
theorem degM_mul {a b:Nat->Int} (h:mulB a b=true):degM (mulM a b)=degM a+degM b:=by
 unfold degM;rw[mul_true h,mul_true h,mul_true h,mul_true h];omega
end Mono
namespace Mono
theorem cmpZ_lt {x y:Int} (h:x<y):cmpZ x y = -1:=by unfold cmpZ;rw[if_pos h]
theorem cmpZ_gt {x y:Int} (h:y<x):cmpZ x y=1:=by unfold cmpZ;rw[if_neg (by omega),if_pos h]
theorem cmpZ_eq {x y:Int} (h:x=y):cmpZ x y=0:=by unfold cmpZ;rw[if_neg (by omega),if_neg (by omega)]
theorem cmpZ_congr {x y u v:Int} (h1:x<y↔u<v) (h2:y<x↔v<u):cmpZ x y=cmpZ u v:=by
 rcases Int.lt_trichotomy x y with h | h | h
 ·rw[cmpZ_lt h,cmpZ_lt (h1.1 h)]
 ·rw[cmpZ_eq h,cmpZ_eq (by have a1:=mt h1.2 (by omega);have a2:=mt h2.2 (by omega);omega)]
 ·rw[cmpZ_gt h,cmpZ_gt (h2.1 h)]
def key (a:Nat->Int):Int:=a 0*281474976710656+a 1*4294967296+a 2*65536+a 3
def rkey (a:Nat->Int):Int:=a 3*281474976710656+a 2*4294967296+a 1*65536+a 0
def KO (o:Int) (a:Nat->Int):Int:=if o=1 then degM a*18446744073709551616+key a else if o=2 then degM a*18446744073709551616-rkey a else key a
structure Bds (a:Nat->Int):Prop where
 b0:0<=a 0/\a 0<=65535
 b1:0<=a 1/\a 1<=65535
 b2:0<=a 2/\a 2<=65535
 b3:0<=a 3/\a 3<=65535
theorem bds {a:Nat->Int} (h:Small a):Bds a:=⟨h 0 (by omega),h 1 (by omega),h 2 (by omega),h 3 (by omega)⟩
theorem key_bd {a:Nat->Int} (h:Small a):0<=key a/\key a<18446744073709551616:=by
 obtain⟨h0,h1,h2,h3⟩:=bds h;unfold key;omega
theorem rkey_bd {a:Nat->Int} (h:Small a):0<=rkey a/\rkey a<18446744073709551616:=by
 obtain⟨h0,h1,h2,h3⟩:=bds h;unfold rkey;omega
theorem lex_key {a b:Nat->Int} (ha:Small a) (hb:Small b):lexM a b=cmpZ (key a) (key b):=by
 obtain⟨k,hD⟩:=diff_any a b;rw[lex_diff hD];obtain⟨h1,h2,h3⟩:=hD;obtain⟨p0,p1,p2,p3⟩:=bds ha;obtain⟨q0,q1,q2,q3⟩:=bds hb
 match k,h1 with
 | 0,_=>rw[if_pos (by omega)];exact cmpZ_congr (by unfold key;omega) (by unfold key;omega)
 | 1,_=>rw[if_pos (by omega)];have e0:=h2 0 (by omega);exact cmpZ_congr (by unfold key;omega) (by unfold key;omega)
 | 2,_=>rw[if_pos (by omega)];have e0:=h2 0 (by omega);have e1:=h2 1 (by omega);exact cmpZ_congr (by unfold key;omega) (by unfold key;omega)
 | 3,_=>rw[if_pos (by omega)];have e0:=h2 0 (by omega);have e1:=h2 1 (by omega);have e2:=h2 2 (by omega);exact cmpZ_congr (by unfold key;omega) (by unfold key;omega)
 | 4,_=>rw[if_neg (by omega)];have e0:=h2 0 (by omega);have e1:=h2 1 (by omega);have e2:=h2 2 (by omega);have e3:=h2 3 (by omega);exact(cmpZ_eq (by unfold key;omega)).symm
theorem rev_small {a:Nat->Int} (h:Small a):Small (revM a):=fun k hk=>h (3-k) (by omega)
theorem key_rev (a:Nat->Int):key (revM a)=rkey a:=rfl
theorem cmp_key {o:Int} {a b:Nat->Int} (ha:Small a) (hb:Small b):cmpM o a b=cmpZ (KO o a) (KO o b):=by
 have k1:=key_bd ha;have k2:=key_bd hb;have r1:=rkey_bd ha;have r2:=rkey_bd hb;by_cases hd:(o=1\/o=2)/\¬degM a=degM b
 ·rw[cmpM_deg hd.1 hd.2,clamp_sub];obtain⟨ho,hne⟩:=hd;unfold KO
  rcases ho with rfl | rfl
  ·rw[if_pos rfl,if_pos rfl];exact cmpZ_congr (by omega) (by omega)
  ·rw[if_neg (by omega),if_pos rfl,if_neg (by omega),if_pos rfl];exact cmpZ_congr (by omega) (by omega)
 ·have hq:(o=1\/o=2)->degM a=degM b:=fun h=>Decidable.byContradiction fun hn=>hd ⟨h,hn⟩
  rw[cmpM_tail hq];unfold tailM KO;by_cases h1:o=1
  ·have e:=hq (Or.inl h1);rw[if_neg (show ¬o=2 by omega),if_pos h1,if_pos h1,lex_key ha hb];exact cmpZ_congr (by omega) (by omega)
  ·by_cases h2:o=2
   ·have e:=hq (Or.inr h2);rw[if_pos h2,if_neg h1,if_neg h1,if_pos h2,if_pos h2,lex_key (rev_small hb) (rev_small ha),key_rev,key_rev];exact cmpZ_congr (by omega) (by omega)
   ·rw[if_neg h2,if_neg h1,if_neg h1,if_neg h2,if_neg h2,lex_key ha hb]
theorem KO_cases (o:Int) (P:(Nat->Int)->(Nat->Int)->Int->Int->Prop) (a b:Nat->Int)
  (h1:P a b (degM a*18446744073709551616+key a) (degM b*18446744073709551616+key b)) (h2:P a b (degM a*18446744073709551616-rkey a) (degM b*18446744073709551616-rkey b)) (h3:P a b (key a) (key b)):P a b (KO o a) (KO o b):=by
 unfold KO;by_cases e1:o=1
 ·rw[if_pos e1,if_pos e1];exact h1
 ·rw[if_neg e1,if_neg e1];by_cases e2:o=2
  ·rw[if_pos e2,if_pos e2];exact h2
  ·rw[if_neg e2,if_neg e2];exact h3
theorem key_inj {a b:Nat->Int} (ha:Small a) (hb:Small b) (h:key a=key b):∀ k,k<4->a k=b k:=by
 obtain⟨p0,p1,p2,p3⟩:=bds ha;obtain⟨q0,q1,q2,q3⟩:=bds hb;rw[all4 fun k=>a k=b k];unfold key at h;omega
theorem rkey_inj {a b:Nat->Int} (ha:Small a) (hb:Small b) (h:rkey a=rkey b):∀ k,k<4->a k=b k:=by
 obtain⟨p0,p1,p2,p3⟩:=bds ha;obtain⟨q0,q1,q2,q3⟩:=bds hb;rw[all4 fun k=>a k=b k];unfold rkey at h;omega
theorem KO_same {o:Int} {a b:Nat->Int} (ha:Small a) (hb:Small b):KO o a=KO o b↔∀ k,k<4->a k=b k:=by
 have k1:=key_bd ha;have k2:=key_bd hb;have r1:=rkey_bd ha;have r2:=rkey_bd hb;constructor
 ·refine KO_cases o (fun a b x y=>x=y->∀ k,k<4->a k=b k) a b ?_ ?_ ?_
  ·intro h;exact key_inj ha hb (by omega)
  ·intro h;exact rkey_inj ha hb (by omega)
  ·intro h;exact key_inj ha hb h
 ·intro h;have h:=(all4 fun k=>a k=b k).1 h;obtain⟨e0,e1,e2,e3⟩:=h;refine KO_cases o (fun _ _ x y=>x=y) a b ?_ ?_ ?_
  ·simp only[degM,key,e0,e1,e2,e3]
  ·simp only[degM,rkey,e0,e1,e2,e3]
  ·simp only[key,e0,e1,e2,e3]
theorem KO_mul {o:Int} {a c:Nat->Int} (h:mulB a c=true):KO o (mulM a c)=KO o a+KO o c:=by
 have e:=degM_mul h;have e0:=mul_true h 0;have e1:=mul_true h 1;have e2:=mul_true h 2;have e3:=mul_true h 3;unfold KO;by_cases i1:o=1
 ·rw[if_pos i1,if_pos i1,if_pos i1];simp only[key];omega
 ·by_cases i2:o=2
  ·rw[if_neg i1,if_pos i2,if_neg i1,if_pos i2,if_neg i1,if_pos i2];simp only[rkey];omega
  ·rw[if_neg i1,if_neg i2,if_neg i1,if_neg i2,if_neg i1,if_neg i2];simp only[key];omega
end Mono
namespace Limb
open Go.RowKit Go.Sort Go.Fresh
theorem cf_add (args:Array Value) (w:World):(callFunc 208 args).run Tryz.prog w=.ok (.enter 208 args) w:=by kernel_rfl
theorem add_plain (zp zq sg:Int) (h:zq.natAbs<=zp.natAbs) (hsg:sg=if decide (zp<0)=decide (zq<0) then 1 else -1) :
  0<=(zp.natAbs:Int)+sg*(zq.natAbs:Int)/\((zp.natAbs:Int)+sg*(zq.natAbs:Int)).toNat=(zp+zq).natAbs /\
  (decide (zp<0)&&decide (0<lenB (zp+zq).natAbs))=decide (zp+zq<0):=by
 have e0:0<lenB (zp+zq).natAbs↔zp+zq≠0:=by
  constructor
  ·intro h1 h2;rw[h2,show Int.natAbs 0=0 from rfl,lenB_zero] at h1;omega
  ·intro h1
   rcases Nat.eq_zero_or_pos (lenB (zp+zq).natAbs) with h2 | h2
   ·have:=lenB_eq_zero.1 h2;omega
   ·exact h2
 by_cases h1:zp<0 <;> by_cases h2:zq<0 <;> simp only[h1,h2,decide_true,decide_false,if_true,reduceCtorEq,if_false] at hsg <;> subst hsg <;>
  refine⟨by omega,by omega,?_⟩ <;> simp only[h1,decide_true,decide_false,Bool.true_and,Bool.false_and]
 ·exact decide_eq_decide.2 (e0.trans (by omega))
 ·exact decide_eq_decide.2 (e0.trans (by omega))
 ·exact(zo (by omega)).symm
 ·exact(zo (by omega)).symm
def addF (x nx y ny:Nat) (sg:Int) (i:Nat):Int:=part (dgi x) nx i+sg*part (dgi y) ny i
theorem part_rng (x n i:Nat):0<=part (dgi x) n i/\part (dgi x) n i<=999999999:=by
 unfold part;split
 ·have:=dgi_Dig x (i+1) i (by omega);omega
 ·omega
theorem addF_bd (x nx y ny:Nat) (sg:Int) (hsg:sg=1\/sg = -1) (i:Nat):-1*999999999<=addF x nx y ny sg i/\addF x nx y ny sg i<=2*999999999:=by
 have h1:=part_rng x nx i;have h2:=part_rng y ny i;unfold addF
 rcases hsg with rfl | rfl <;> omega
theorem addF_sum (x y:Nat) (sg:Int) (h:lenB y<=lenB x+1):sumB (addF x (lenB x) y (lenB y) sg) (lenB x+1)=x+sg*y:=by
 have e:addF x (lenB x) y (lenB y) sg=fun i=>part (dgi x) (lenB x) i+part (dgi y) (lenB y) i*sg:=by funext i;unfold addF;rw[Int.mul_comm]
 rw[e,sumB_plus,sumB_times,sumB_part _ (by omega),sumB_part _ h,sumB_dgi,sumB_dgi,Int.mul_comm]
theorem add_lt (x y:Nat) (sg:Int) (hsg:sg=1\/sg = -1) (h:y<=x):(x:Int)+sg*y<(pw (lenB x+1):Int):=by
 have h1:=lt_pw_lenB x;rw[pw_succ]
 rcases hsg with rfl | rfl <;> omega
theorem quietOf {P:Program} {f:FuncId} {args:Array Value} {w:World} {n:Nat} {v:Value}
  (h:Calls P f args (w.drewN n) fun e w'=>e=.returned v/\w'=w.drewN n):Calls P f args (w.drewN n) fun e w''=>e=.returned v/\∃ m,w''=w.drewN m :=
 h.mono fun _ _ ⟨he,hm⟩=>⟨he,n,hm⟩
theorem addFn (w:World) (b1 b2 b3:Nat) (s1 s2:Value) (T:TypeId) (p q:Option Addr) (f g:Nat->Int) (nx ny d e:Nat) (sg:Int) (k:Nat)
  (B1:Bx w b1 T s1 (.slice p nx d)) (B2:Bx w b2 T s2 (.slice q ny e)) (h3:w.cell? ⟨b3,0,none⟩=some (.int .i64 sg)) (hp:Rd w p nx f) (hq:Rd w q ny g)
  (hx:nx<=1000000000) (hy:ny<=1000000000) (hk:k<=1000000000) (hsg:sg=1\/sg = -1) (r1:0<=part f nx k/\part f nx k<=999999999) (r2:0<=part g ny k/\part g ny k<=999999999) :
  Calls Tryz.prog 208 #[.int .i64 k,.pointer (some ⟨b1,0,none⟩),.pointer (some ⟨b3,0,none⟩),.pointer (some ⟨b2,0,none⟩)] w fun e w'=>e=.returned (.int .i64 (part f nx k+sg*part g ny k))/\Below w.heap.size w w':=by
 have P:=qh (fun (w1:World) (h:∃ m,w1=w.drewN m)=>part_any p nx d f k w1 (by obtain⟨m,rfl⟩:=h;exact hp.drewN m) hx hk);have Q:=qh (fun (w1:World) (h:∃ m,w1=w.drewN m)=>part_any q ny e g k w1 (by obtain⟨m,rfl⟩:=h;exact hq.drewN m) hy hk);have e1:=IntWalk.i64_in (sg*part g ny k) (by rcases hsg with rfl | rfl <;> omega);have e2:=IntWalk.i64_in (part f nx k+sg*part g ny k) (by rcases hsg with rfl | rfl <;> omega)
 generalize part f nx k=u at *
 generalize part g ny k=v at *
 have c1:=B1.c1;have c2:=B2.c1;clear B1 B2 hp hq;go_enter Tryz.func208,Tryz.ntmps208;go_wp2_with fail
 go_quiet (first | with_reducible exact quietOf (P.o _ ⟨_,rfl⟩) | with_reducible exact quietOf (Q.o _ ⟨_,rfl⟩));go_wp2;go_ret;exact⟨rfl,bdrewN zk _⟩
theorem Own.cut {T:Nat} {w:World} {base:Nat} {a:Option Addr} {n cap L:Nat} {o o':Nat->Int} (h:Own T w base a n cap o) (hL:L<=n) (e:∀ i,i<L->o i=o' i):Own T w base a L L o':=by
 refine⟨zj,?_,fun i hi=>by rw[<- e i hi];exact h.rng i (by omega)⟩
 rcases h.place with ⟨e0,h0,h1⟩ | ⟨g,cur,ha,hbg,hg,hcap,hc⟩
 ·exact Or.inl ⟨e0,by omega,by omega⟩
 ·exact Or.inr ⟨g,cur,ha,hbg,hg,by have:=h.le;omega,fun i hi=>by rw[hc i (by omega)];show some (Value.int .u32 (o i))=_;rw[e i hi]⟩
theorem Own.other {T:Nat} {w:World} {base:Nat} {a:Option Addr} {n cap:Nat} {o:Nat->Int} (h:Own T w base a n cap o) {p:Addr} (hp:p.block<base) (v:Value):Own T (w.setCell p v) base a n cap o:=by
 refine⟨h.le,?_,h.rng⟩
 rcases h.place with h0 | ⟨g,cur,ha,hbg,hg,hcap,hc⟩
 ·exact Or.inl h0
 ·exact Or.inr ⟨g,cur,ha,hbg,(Below.heap_setCell _ _ _ _ (by omega)).trans hg,hcap,hc⟩
theorem Own.oz {T:Nat} {w:World} {base:Nat} {a:Option Addr} {n cap:Nat} {o:Nat->Int} (h:Own T w base a n cap o) {p:Addr} {v:Value} (hp:p.block<base:=by dsimp only;omega):Own T (w.setCell p v) base a n cap o:=h.other hp v
theorem own_of {T g N b:Nat} {o:Nat->Int} {w:World} (h:∃ x:Nat,Value.slice (some ⟨g,0,none⟩) N N=.slice (some ⟨x,0,none⟩) N N/\Own T w b (some ⟨x,0,none⟩) N N o):Own T w b (some ⟨g,0,none⟩) N N o:=by
 obtain⟨x,e,h⟩:=h
 cases e
 exact h
theorem own_num {T L b:Nat} {s:Bool} {a:Option Addr} {o:Nat->Int} {w:World} {p:Option Addr->Prop} (h:∃ x:Option Addr,numV s a L L=numV s x L L/\Own T w b x L L o/\p x):Own T w b a L L o/\p a:=by
 obtain⟨x,e,h⟩:=h
 cases e
 exact h
theorem add_any (s1:Bool) (a1:Option Addr) (n1 c1:Nat) (o1:Nat->Int) (s2:Bool) (a2:Option Addr) (n2 c2:Nat) (o2:Nat->Int) (w:World)
  (h1:Rd w a1 n1 o1) (hn1:n1<=100000000) (hc1:n1<=c1) (h2:Rd w a2 n2 o2) (hn2:n2<=100000000) (hc2:n2<=c2) :
  Calls Tryz.prog 170 #[numV s1 a1 n1 c1,numV s2 a2 n2 c2] w fun e w'=>∃ a,e=.returned (numV (decide (valN s1 n1 o1+valN s2 n2 o2<0)) a (lenB (valN s1 n1 o1+valN s2 n2 o2).natAbs) (lenB (valN s1 n1 o1+valN s2 n2 o2).natAbs)) /\
   Own 128 w' w.heap.size a (lenB (valN s1 n1 o1+valN s2 n2 o2).natAbs) (lenB (valN s1 n1 o1+valN s2 n2 o2).natAbs) (dgi (valN s1 n1 o1+valN s2 n2 o2).natAbs)/\(a=none->lenB (valN s1 n1 o1+valN s2 n2 o2).natAbs=0)/\Below w.heap.size w w':=by
 obtain⟨x1,d1,r1,l1,m1,O1⟩:=of_any s1 a1 n1 c1 o1 w h1 (by omega) hc1;obtain⟨x2,d2,r2,l2,m2,O2⟩:=of_any s2 a2 n2 c2 o2 w h2 (by omega) hc2
 generalize valN s1 n1 o1=z1 at r1 l1 m1 O1 ⊢
 have HO1:=qh O1;clear O1
 generalize valN s2 n2 o2=z2 at r2 l2 m2 O2 ⊢
 have HO2:=qh O2;clear O2;have B1:=(((Bx.new w 30 (.bool s1) (.slice a1 n1 c1)).alloc (.cells #[.bool s2,.slice a2 n2 c2] 30)).alloc (.cells #[.bool false,.slice none 0 0] 30));have B2:=((Bx.new2 w (.cells #[.bool s1,.slice a1 n1 c1] 30) 30 (.bool s2) (.slice a2 n2 c2)).alloc (.cells #[.bool false,.slice none 0 0] 30));have B3:=(Bx.new3 w (.cells #[.bool s1,.slice a1 n1 c1] 30) (.cells #[.bool s2,.slice a2 n2 c2] 30) 30 (.bool false) (.slice none 0 0));go_enter Tryz.func170,Tryz.ntmps170
 go_upto_region 1 with (fail)
 obtain⟨W,hW⟩:∃ W,W=(((w.alloc (.cells #[.bool s1,.slice a1 n1 c1] 30)).alloc (.cells #[.bool s2,.slice a2 n2 c2] 30)).alloc (.cells #[.bool false,.slice none 0 0] 30)):=⟨_,rfl⟩;have G1:=qh ((zk.alloc (by go_size) _ |>.alloc (by go_size) _ |>.alloc (by go_size) _):Below w.heap.size w (((w.alloc (.cells #[.bool s1,.slice a1 n1 c1] 30)).alloc (.cells #[.bool s2,.slice a2 n2 c2] 30)).alloc (.cells #[.bool false,.slice none 0 0] 30)));rw[<- hW] at B1 B2 B3 G1;rw[show(((w.alloc (.cells #[.bool s1,.slice a1 n1 c1] 30)).alloc (.cells #[.bool s2,.slice a2 n2 c2] 30)).alloc (.cells #[.bool false,.slice none 0 0] 30))=W from hW.symm];clear hW
 go_cut [] (fun wx=>Bx wx w.heap.size 30 (.bool (decide (z1<0))) (.slice x1 (lenB z1.natAbs) d1)/\Bx wx (w.heap.size+1) 30 (.bool (decide (z2<0))) (.slice x2 (lenB z2.natAbs) d2) /\
  Bx wx (w.heap.size+1+1) 30 (.bool false) (.slice none 0 0)/\Below w.heap.size w wx)
 case first =>
  have HS1:=qh (fun (w':World) (hb:Below W.heap.size W w')=>And.intro (B1.below hb B1.lt).c0 (B1.below hb B1.lt).c1);have HS2:=qh (fun (w':World) (hb:Below W.heap.size W w')=>And.intro (B2.below hb B2.lt).c0 (B2.below hb B2.lt).c1);have HB1:=qh B1;have HB2:=qh B2;have HB3:=qh B3;clear B1 B2 B3
  refine wp_region_fresh 4 (spOf [(1,Sp.know (numV (decide (z1<0)) x1 (lenB z1.natAbs) d1)),(3,Sp.know (numV (decide (z2<0)) x2 (lenB z2.natAbs) d2))]) (fun w'=>Below W.heap.size W w') (by kernel_rfl) (by kernel_rfl)
   (spOf_cons (Sp.know_keeps _) (spOf_cons (Sp.know_keeps _) spOf_nil)) (fun _ _ h hb=>h.trans (hb.mono h.size)) (zk.drew) ?_
  simp only[zx,zy,zv,zw]
  (refine wpF_reads rfl rfl ?_ (fun w' hw'=>?_) ?_;rotate_left;· (have hb':=Has.world hw';(have hs:=HS1.o _ hb');clear hw';go_simp;try rfl))
  (refine wpF_spec rfl rfl (fun w' hw'=>?_) ?_;· (have hb':=Has.world hw';go_simp;((refine(HO1.o w' (G1.o.trans (hb'.mono G1.o.size))).mono ?_;rintro e w'' ⟨rfl,hb⟩;exact⟨_,rfl,rfl,hb⟩))))
  rintro _ rfl
  (refine wpF_reads rfl rfl ?_ (fun w' hw'=>?_) ?_;rotate_left;· (have hb':=Has.world hw';(have hs:=HS2.o _ hb');clear hw';go_simp;try rfl))
  (refine wpF_spec rfl rfl (fun w' hw'=>?_) ?_;· (have hb':=Has.world hw';go_simp;((refine(HO2.o w' (G1.o.trans (hb'.mono G1.o.size))).mono ?_;rintro e w'' ⟨rfl,hb⟩;exact⟨_,rfl,rfl,hb⟩))))
  rintro _ rfl;refine wpF_nil (fun w1 hb1 hF=>?_);clear hF;have C1:=HB1.o.bl hb1;have C2:=HB2.o.bl hb1;have C3:=HB3.o.bl hb1;have G2:=G1.o.trans (hb1.mono G1.o.size);have K1:=qh C1;have K2:=qh C2;have K3:=qh C3;obtain⟨b10,b11,b12,b13⟩:=C1.all;obtain⟨b20,b21,b22,b23⟩:=C2.all;have KG:=qh G2;clear C1 C2 C3 hb1 HS1 HS2 G2;go_wp2_with fail
  go_meet
  case rel =>
   exact⟨((K1.o.set _ _).oz).oz,((K2.o.oz).oz).set _ _,(((K3.o.oz).oz).oz).oz,
    (((KG.o.setCell (by simp) _).setCell (by simp) _).setCell (by simp) _).setCell (by simp) _⟩
 case rest =>
  obtain⟨B1,B2,B3,G1⟩:=hcut;obtain⟨w1,rfl⟩:∃ w1,w1=wc:=⟨_,rfl⟩;have R1:=r1.below G1;have R2:=r2.below G1;have AM:=qh (amounts_any z1.natAbs z2.natAbs x1 x2 d1 d2 w1 R1 R2 (by omega) (by omega));have K1:=qh B1;have K2:=qh B2;have K3:=qh B3;have KG:=qh G1;have HR:=qh (And.intro r1 r2);obtain⟨b10,b11,b12,b13⟩:=B1.all;obtain⟨b20,b21,b22,b23⟩:=B2.all;clear B1 B2 B3 G1 R1 R2 r1 r2 h1 h2 HO1 HO2
  go_upto_if 15 with (first
   | (go_at_call 206;refine AM.o.mono ?_;rintro e w2 ⟨rfl,m,rfl⟩))
  go_cut [] (fun wx=>∃ (zp zq:Int) (xp xq:Option Addr) (dp dq:Nat),zp+zq=z1+z2/\zq.natAbs<=zp.natAbs/\lenB zp.natAbs<=100000000/\Rd w xp (lenB zp.natAbs) (dgi zp.natAbs)/\Rd w xq (lenB zq.natAbs) (dgi zq.natAbs) /\
   Bx wx w.heap.size 30 (.bool (decide (zp<0))) (.slice xp (lenB zp.natAbs) dp)/\Bx wx (w.heap.size+1) 30 (.bool (decide (zq<0))) (.slice xq (lenB zq.natAbs) dq) /\
   Bx wx (w.heap.size+1+1) 30 (.bool false) (.slice none 0 0)/\Below w.heap.size w wx)
  case first =>
   by_cases hlt:z1.natAbs<z2.natAbs
   ·rw[show cmpZ (z1.natAbs:Int) (z2.natAbs:Int) = -1 from cmpZ_lt (by omega)];go_wp2_with fail
    go_meet
    case rel =>
     exact⟨z2,z1,x2,x1,d2,d1,by omega,by omega,by omega,HR.o.2,HR.o.1,
      ((K1.o.drewN m |>.set _ _).oz).oz,((K2.o.drewN m |>.oz).oz).set _ _,
      (((K3.o.drewN m |>.oz).oz).oz).oz,
      ((((bdrewN KG.o m).setCell (by simp) _).setCell (by simp) _).setCell (by simp) _).setCell (by simp) _⟩
   ·have hc:decide (cmpZ (z1.natAbs:Int) (z2.natAbs:Int)<0)=false:=by
     refine zo ?_
     rcases Nat.lt_or_ge z2.natAbs z1.natAbs with h | h
     ·rw[cmpZ_gt (by omega)];omega
     ·rw[cmpZ_eq (by omega)];omega
    rw[hc];clear hc;go_wp2_with fail
    go_meet
    case rel=>exact⟨z1,z2,x1,x2,d1,d2,by omega,by omega,by omega,HR.o.1,HR.o.2,K1.o.drewN m,K2.o.drewN m,K3.o.drewN m,bdrewN KG.o m⟩
  case rest =>
   obtain⟨zp,zq,xp,xq,dp,dq,ez,hle,hlp,rp,rq,B1,B2,B3,G1⟩:=hcut;obtain⟨w3,rfl⟩:∃ w3,w3=wc:=⟨_,rfl⟩;have K1:=qh B1;have K2:=qh B2;have K3:=qh B3;have KG:=qh G1;have HP:=qh rp;have HQ:=qh rq;have HE:=qh ez;have HL:=qh hle;have HLP:=qh hlp;have hsz:w.heap.size+1+1<w3.heap.size:=B3.lt;obtain⟨b10,b11,b12,b13⟩:=B1.all;obtain⟨b20,b21,b22,b23⟩:=B2.all
   obtain⟨sg,hsg⟩:∃ sg:Int,sg=if decide (zp<0)=decide (zq<0) then 1 else -1:=⟨_,rfl⟩
   have HS:=qh hsg;clear B1 B2 B3 G1 rp rq ez hle hlp HR AM hsg
   go_upto_if 22 with (fail)
   go_cut [] (fun wx=>Bx wx w.heap.size 30 (.bool (decide (zp<0))) (.slice xp (lenB zp.natAbs) dp)/\Bx wx (w.heap.size+1) 30 (.bool (decide (zq<0))) (.slice xq (lenB zq.natAbs) dq) /\
    Bx wx (w.heap.size+1+1) 30 (.bool false) (.slice none 0 0)/\wx.rowIs w3.heap.size 2 1 (fun _=>.int .i64 sg)/\Below w.heap.size w wx)
   case first =>
    by_cases hs:decide (zp<0)=decide (zq<0)
    ·have e0:(!(decide (zp<0)==decide (zq<0)))=false:=by rw[hs];simp
     have S:=qh (HS.o.trans (if_pos hs));rw[e0];clear e0 hs;go_wp2_with fail
     go_meet
     case rel =>
      exact⟨K1.o.alloc _,K2.o.alloc _,K3.o.alloc _,by
       have h:=World.rowIs_alloc w3 #[.int .i64 1] 2 (fun _=>.int .i64 sg) (fun i hi=>by
        match i,hi with
        | 0,_=>rw[S.o];rfl)
       exact h,KG.o.alloc KG.o.size _⟩
    ·have e0:(!(decide (zp<0)==decide (zq<0)))=true:=by simpa using hs
     have S:=qh (HS.o.trans (if_neg hs));rw[e0];clear e0 hs;go_wp2_with fail
     go_meet
     case rel =>
      exact⟨K1.o.alloc _,K2.o.alloc _,K3.o.alloc _,by
       have h:=World.rowIs_alloc w3 #[.int .i64 (-1)] 2 (fun _=>.int .i64 sg) (fun i hi=>by
        match i,hi with
        | 0,_=>rw[S.o];rfl)
       exact h,KG.o.alloc KG.o.size _⟩
   case rest =>
    obtain⟨B1,B2,B3,BS,G1⟩:=hcut;obtain⟨w4,rfl⟩:∃ w4,w4=wc:=⟨_,rfl⟩;have HB1:=qh B1;have HB2:=qh B2;have HB3:=qh B3;have HBS:=qh BS;have HG:=qh G1;clear K1 K2 K3 KG b10 b11 b12 b13 b20 b21 b22 b23 B1 B2 B3 BS G1;have hcf:=qh cf_add
    obtain⟨F,hF⟩:∃ F:Nat->Int,F=fun k=>part (dgi zp.natAbs) (lenB zp.natAbs) k+sg*part (dgi zq.natAbs) (lenB zq.natAbs) k:=⟨_,rfl⟩
    have hs1:sg=1\/sg = -1:=by rw[HS.o];split <;> simp
    have hlq:lenB zq.natAbs<=lenB zp.natAbs:=lenB_mono HL.o;have hlp:lenB zp.natAbs<=100000000:=HLP.o
    have hsum:sumB F (lenB zp.natAbs+1)=(zp.natAbs:Int)+sg*(zq.natAbs:Int):=by rw[hF];exact addF_sum _ _ _ (by omega)
    obtain⟨p1,p2,p3⟩:=add_plain zp zq sg HL.o HS.o;have hcs:=cS_fits (f:=F) (n:=lenB zp.natAbs+1) (by rw[hsum];exact p1) (by rw[hsum];exact add_lt _ _ _ hs1 HL.o);have hcut:sumB (cD F) (lenB zp.natAbs+1)=(zp.natAbs:Int)+sg*(zq.natAbs:Int):=hcs.2.trans hsum;rw[HE.o] at p2 p3
    have CARRY:=qh (fun (w':World) (hb:Below w4.heap.size w4 w')=>carry_any 208 #[.pointer (some ⟨w.heap.size,0,none⟩),.pointer (some ⟨w3.heap.size,0,none⟩),.pointer (some ⟨w.heap.size+1,0,none⟩)] (lenB zp.natAbs+1) F (-1) 2 w' (by omega) cf_add
     (fun k hk w1 hb1=>by
      have hbb:Below w4.heap.size w4 w1:=hb.trans (hb1.mono hb.size)
      have:=addFn w1 w.heap.size (w.heap.size+1) w3.heap.size _ _ _ xp xq (dgi zp.natAbs) (dgi zq.natAbs) (lenB zp.natAbs) (lenB zq.natAbs) dp dq sg k (HB1.o.bl hbb) (HB2.o.bl hbb)
       ((hbb.cell (p:=⟨w3.heap.size,0,none⟩) HBS.o.lt).trans (HBS.o.cell (i:=0) (by omega)))
       (HP.o.below (HG.o.trans (hbb.mono HG.o.size))) (HQ.o.below (HG.o.trans (hbb.mono HG.o.size))) (by omega) (by omega) (by omega) hs1 (part_rng _ _ _) (part_rng _ _ _)
      rw[hF]
      exact this) (fun k _=>by rw[hF];exact addF_bd _ _ _ _ _ hs1 k) (by omega) (by omega) (by omega) (by omega))
    have HF:=qh hF;clear hF;have HC:=qh hcut;clear hcut;have HS1:=qh (fun (w':World) (hb:Below w4.heap.size w4 w')=>And.intro (HB1.o.bl hb).c0 (HB1.o.bl hb).c1);have HP2:=qh p2;have HP3:=qh p3;clear hsum p1 p2 p3 hcs HE HS HL;obtain⟨N,hN⟩:∃ N,N=lenB zp.natAbs+1:=⟨_,rfl⟩;have HN:=qh hN;rw[<- hN] at CARRY HC
    have hNb:N<=100000001:=by omega
    have ew:IntKind.i64.wrap ((lenB zp.natAbs:Int)+1)=(N:Int):=by rw[IntWalk.i64_in _ (by omega)];omega
    have HD:=qh (show lenB (z1+z2).natAbs<=N/\∀ i,i<lenB (z1+z2).natAbs->cD F i=dgi (z1+z2).natAbs i by
     have h1:=lenB_le_of (cD_Dig F N);rw[HC.o,HP2.o] at h1;refine⟨h1,fun i hi=>?_⟩;have h2:=dg_sumB (cD_Dig F N) i (by omega);rw[HC.o,HP2.o] at h2
     exact h2.symm)
    have CUT:=qh (fun (w':World) (g:Nat) (ho:Own 128 w' w4.heap.size (some ⟨g,0,none⟩) N N (cD F))=>cut_any (decide (zp<0)) (some ⟨g,0,none⟩) N N (cD F) w' ho.rd (cD_Dig F N) (by omega) zj (fun h=>by cases h));rw[HC.o,HP2.o,HP3.o] at CUT;clear hN
    go_upto_region 7 with (fail)
    refine wp_region_fresh 9 (spOf [(7,Sp.made (fun g:Nat=>.slice (some ⟨g,0,none⟩) N N) (fun g w'=>Own 128 w' w4.heap.size (some ⟨g,0,none⟩) N N (cD F))),
      (8,Sp.made (fun a:Option Addr=>numV (decide (z1+z2<0)) a (lenB (z1+z2).natAbs) (lenB (z1+z2).natAbs)) (fun a w'=>Own 128 w' w4.heap.size a (lenB (z1+z2).natAbs) (lenB (z1+z2).natAbs) (dgi (z1+z2).natAbs)/\(a=none->lenB (z1+z2).natAbs=0)))])
     (fun w'=>Below w4.heap.size w4 w') (by kernel_rfl) (by kernel_rfl)
     (spOf_cons (Sp.made_keeps fun x w w' h hb=>h.below hb) (spOf_cons (Sp.made_keeps fun x w w' h hb=>⟨h.1.below hb,h.2⟩) spOf_nil)) (fun _ _ h hb=>h.trans (hb.mono h.size)) (zk.drew) ?_
    simp only[zx,zy,zv,zw]
    iterate 7
     (refine wpF_reads rfl rfl ?_ (fun w' hw'=>?_) ?_;rotate_left;· (have hb':=Has.world hw';(have hs:=HS1.o _ hb');clear hw';go_simp;try rfl))
    (refine wpF_spec rfl rfl (fun w' hw'=>?_) ?_;· (have hb':=Has.world hw';go_simp;((refine(CARRY.o w' hb').mono ?_;rintro e w'' ⟨rfl,ho,hb⟩;exact⟨_,rfl,⟨⟨_,rfl⟩,⟨_,rfl,ho.mono hb'.size⟩⟩,hb⟩))))
    rintro _ ⟨g,rfl⟩
    (refine wpF_spec rfl rfl (fun w' hw'=>?_) ?_;· (have hb':=Has.world hw';go_simp;((have h7:=own_of (g:=g) (N:=N) (T:=128) (o:=cD F) (b:=w4.heap.size) (hw'.fact 7 (by kernel_rfl));refine(CUT.o w' g h7).mono ?_;rintro e w'' ⟨rfl,hb⟩;exact⟨_,rfl,⟨⟨_,rfl⟩,⟨_,rfl,(h7.below hb).cut HD.o.1 HD.o.2,fun h=>by cases h⟩⟩,hb⟩))))
    rintro _ ⟨a,rfl⟩;refine wpF_nil (fun w5 hb5 hF5=>?_);have OA:=own_num (T:=128) (b:=w4.heap.size) (s:=decide (z1+z2<0)) (L:=lenB (z1+z2).natAbs) (o:=dgi (z1+z2).natAbs) (a:=a) (p:=fun x=>x=none->lenB (z1+z2).natAbs=0) (hF5 8);have HO:=qh OA;have B3:=HB3.o.bl hb5;have HB5:=qh B3;obtain⟨b30,b31,b32,b33⟩:=B3.all;have HG5:=qh (HG.o.trans (hb5.mono HG.o.size));have hz4:=HB3.o.lt;have hz5:=HG.o.size;clear hF5 OA B3 hb5 HS1 CARRY CUT HD;go_wp2_with fail
    refine bodyPost_ret (results_cell rfl _ _ _ _ _ _ _ rfl (HB5.o.set _ _) Tryz.underlying30 rfl (by kernel_rfl)) rfl ⟨a,rfl,?_,HO.o.2,?_⟩
    ·exact((HO.o.1.oz).oz).mono hz5
    ·exact(HG5.o.sc).sc
def ResN (w:World) (z:Int) (e:Ending) (w':World):Prop :=
 ∃ a,e=.returned (numV (decide (z<0)) a (lenB z.natAbs) (lenB z.natAbs))/\Own 128 w' w.heap.size a (lenB z.natAbs) (lenB z.natAbs) (dgi z.natAbs)/\(a=none->lenB z.natAbs=0)/\Below w.heap.size w w'
theorem add_res (s1:Bool) (a1:Option Addr) (n1 c1:Nat) (o1:Nat->Int) (s2:Bool) (a2:Option Addr) (n2 c2:Nat) (o2:Nat->Int) (w:World)
  (h1:Rd w a1 n1 o1) (hn1:n1<=100000000) (hc1:n1<=c1) (h2:Rd w a2 n2 o2) (hn2:n2<=100000000) (hc2:n2<=c2) :
  Calls Tryz.prog 170 #[numV s1 a1 n1 c1,numV s2 a2 n2 c2] w (ResN w (valN s1 n1 o1+valN s2 n2 o2)):=add_any s1 a1 n1 c1 o1 s2 a2 n2 c2 o2 w h1 hn1 hc1 h2 hn2 hc2
theorem canon_ok (z:Int):okN (decide (z<0)) (lenB z.natAbs) (dgi z.natAbs):=by
 refine⟨fun i hi=>(dgi_Dig _ _ i hi).2,fun h=>?_,fun h=>?_⟩
 ·have:=lenB_eq_zero.1 h;exact zo (by omega)
 ·have h1:=dg_last (m:=z.natAbs) (fun e=>by rw[e,lenB_zero] at h;omega);show((dg z.natAbs (lenB z.natAbs-1):Nat):Int)≠0;omega
theorem canon_val (z:Int):valN (decide (z<0)) (lenB z.natAbs) (dgi z.natAbs)=z:=by
 unfold valN;rw[if_pos (canon_ok z),sumB_dgi];by_cases h:z<0
 ·rw[if_pos (decide_eq_true h)];omega
 ·rw[if_neg (by simpa using h)];omega
theorem canon_neg (z:Int) (s:Bool) (hs:s=decide (-z<0)):valN s (lenB z.natAbs) (dgi z.natAbs) = -z:=by
 have h:=canon_val (-z);rw[Int.natAbs_neg] at h;rw[hs];exact h
theorem own_clone {T L b:Nat} {x:Option Addr × Nat} {o:Nat->Int} {w:World} (h:∃ y:Option Addr × Nat,Value.slice x.1 L x.2=.slice y.1 L y.2/\Own T w b y.1 L y.2 o/\(y.1=none->y.2=0)):Own T w b x.1 L x.2 o/\(x.1=none->x.2=0):=by
 obtain⟨y,e,h⟩:=h;simp only[Value.slice.injEq] at e;rw[e.1,e.2.2];exact h
theorem pos_len {z:Int}:0<lenB z.natAbs↔z≠0:=by
 constructor
 ·intro h1 h2;rw[h2,show Int.natAbs 0=0 from rfl,lenB_zero] at h1;omega
 ·intro h1
  rcases Nat.eq_zero_or_pos (lenB z.natAbs) with h2 | h2
  ·have:=lenB_eq_zero.1 h2;omega
  ·exact h2
theorem neg_sign (z:Int):((!decide (z<0))&&decide (0<lenB z.natAbs))=decide (-z<0):=by
 have e0:=pos_len (z:=z);by_cases h1:z<0
 ·simp only[h1,decide_true,Bool.not_true,Bool.false_and];exact(zo (by omega)).symm
 ·simp only[h1,decide_false,Bool.not_false,Bool.true_and];exact decide_eq_decide.2 (e0.trans (by omega))
theorem neg_any (s1:Bool) (a1:Option Addr) (n1 c1:Nat) (o1:Nat->Int) (w:World)
  (h1:Rd w a1 n1 o1) (hn1:n1<=100000000) (hc1:n1<=c1) :
  Calls Tryz.prog 202 #[numV s1 a1 n1 c1] w (ResN w (- valN s1 n1 o1)):=by
 obtain⟨x2,d2,r2,l2,m2,O2⟩:=of_any s1 a1 n1 c1 o1 w h1 (by omega) hc1
 generalize valN s1 n1 o1=z2 at r2 l2 m2 O2 ⊢
 have HO2:=qh O2;have HR2:=qh r2;have HB1:=qh ((Bx.new w 30 (.bool s1) (.slice a1 n1 c1)).alloc (.cells #[.bool false,.slice none 0 0] 30));have HB2:=qh (Bx.new2 w (.cells #[.bool s1,.slice a1 n1 c1] 30) 30 (.bool false) (.slice none 0 0));clear O2 h1 r2;go_enter Tryz.func202,Tryz.ntmps202;go_wp2_with fail
 refine(HO2.o _ ?_).mono ?_
 ·exact qg
 rintro e w1 ⟨rfl,hb1⟩;have B1:=HB1.o.bl hb1;have B2:=HB2.o.bl hb1;have G1:=qh ((zk.alloc (by go_size) _ |>.alloc (by go_size) _).trans (hb1.mono (by go_size)):Below w.heap.size w w1);have K1:=qh B1;have K2:=qh B2;obtain⟨b10,b11,b12,b13⟩:=B1.all;clear HB1 HB2 B1 B2 hb1
 go_upto_region 2 with (fail)
 obtain⟨W,hW⟩:∃ W,W=((w1.setCell ⟨w.heap.size,0,none⟩ (.bool (decide (z2<0)))).setCell ⟨w.heap.size,1,none⟩ (.slice x2 (lenB z2.natAbs) d2)):=⟨_,rfl⟩;rw[<- hW];have HB1:=qh (K1.o.set (.bool (decide (z2<0))) (.slice x2 (lenB z2.natAbs) d2));have HB2:=qh ((K2.o.other (a:=⟨w.heap.size,0,none⟩) (by dsimp only;omega) (.bool (decide (z2<0)))).other (a:=⟨w.heap.size,1,none⟩) (by dsimp only;omega) (.slice x2 (lenB z2.natAbs) d2));have HG:=qh ((G1.o.setCell (p:=⟨w.heap.size,0,none⟩) zj (.bool (decide (z2<0)))).setCell (p:=⟨w.heap.size,1,none⟩) zj (.slice x2 (lenB z2.natAbs) d2));rw[<- hW] at HB1 HB2 HG;clear hW b10 b11 b12 b13 K1 K2 G1;have HS1:=qh (fun (w':World) (hb:Below W.heap.size W w')=>And.intro (HB1.o.bl hb).c0 (HB1.o.bl hb).c1);have CL:=qh (fun (w':World) (hb:Below W.heap.size W w')=>clone_any x2 (lenB z2.natAbs) d2 (dgi z2.natAbs) w' (HR2.o.below (HG.o.trans (hb.mono HG.o.size))) (by omega));have CUT:=qh (fun (w':World) (x:Option Addr × Nat) (ho:Own 128 w' W.heap.size x.1 (lenB z2.natAbs) x.2 (dgi z2.natAbs)) (hx:x.1=none->x.2=0)=>cut_any (!decide (z2<0)) x.1 (lenB z2.natAbs) x.2 (dgi z2.natAbs) w' ho.rd (dgi_Dig _ _) (by omega) ho.le hx);rw[sumB_dgi,Int.toNat_natCast,neg_sign] at CUT;obtain⟨sB,hsB⟩:∃ sB,sB=decide (-z2<0):=⟨_,rfl⟩;rw[<- hsB] at CUT;have HSB:=qh hsB;clear hsB
 refine wp_region_fresh 7 (spOf [(5,Sp.made (fun x:Option Addr × Nat=>.slice x.1 (lenB z2.natAbs) x.2) (fun x w'=>Own 128 w' W.heap.size x.1 (lenB z2.natAbs) x.2 (dgi z2.natAbs)/\(x.1=none->x.2=0))),
   (6,Sp.made (fun a:Option Addr=>numV sB a (lenB z2.natAbs) (lenB z2.natAbs)) (fun a w'=>Own 128 w' W.heap.size a (lenB z2.natAbs) (lenB z2.natAbs) (dgi z2.natAbs)/\(a=none->lenB z2.natAbs=0)))])
  (fun w'=>Below W.heap.size W w') (by kernel_rfl) (by kernel_rfl)
  (spOf_cons (Sp.made_keeps fun x w w' h hb=>⟨h.1.below hb,h.2⟩) (spOf_cons (Sp.made_keeps fun x w w' h hb=>⟨h.1.below hb,h.2⟩) spOf_nil)) (fun _ _ h hb=>h.trans (hb.mono h.size)) (zk.drew) ?_
 simp only[zx,zy,zv,zw]
 iterate 5
  (refine wpF_reads rfl rfl ?_ (fun w' hw'=>?_) ?_;rotate_left;· (have hb':=Has.world hw';(have hs:=HS1.o _ hb');clear hw';go_simp;try rfl))
 (refine wpF_spec rfl rfl (fun w' hw'=>?_) ?_;· (have hb':=Has.world hw';go_simp;((refine(CL.o w' hb').mono ?_;rintro e w'' ⟨a',cap',rfl,ho,hn,hb⟩;exact⟨_,rfl,⟨⟨a',cap',rfl⟩,⟨a',cap',rfl,ho.mono hb'.size,hn⟩⟩,hb⟩))))
 rintro _ ⟨x,rfl⟩
 (refine wpF_spec rfl rfl (fun w' hw'=>?_) ?_;· (have hb':=Has.world hw';go_simp;((have h7:=own_clone (x:=x) (L:=lenB z2.natAbs) (T:=128) (o:=dgi z2.natAbs) (b:=W.heap.size) (hw'.fact 5 (by kernel_rfl));refine(CUT.o w' x h7.1 h7.2).mono ?_;rintro e w'' ⟨rfl,hb⟩;exact⟨_,rfl,⟨⟨_,rfl⟩,⟨_,rfl,(h7.1.below hb).cut zj (fun _ _=>rfl),fun h=>by have:=h7.1.le;have:=h7.2 h;omega⟩⟩,hb⟩))))
 rintro _ ⟨a,rfl⟩;refine wpF_nil (fun w5 hb5 hF5=>?_);have OA:=own_num (T:=128) (b:=W.heap.size) (s:=sB) (L:=lenB z2.natAbs) (o:=dgi z2.natAbs) (a:=a) (p:=fun x=>x=none->lenB z2.natAbs=0) (hF5 6);have HO:=qh OA;have B2:=HB2.o.bl hb5;have HB5:=qh B2;obtain⟨b30,b31,b32,b33⟩:=B2.all;have HG5:=qh (HG.o.trans (hb5.mono HG.o.size));have hz4:=HB2.o.lt;have hz5:=HG.o.size;clear hF5 OA B2 hb5 HS1 CL CUT;go_wp2_with fail
 unfold ResN;rw[Int.natAbs_neg,<- HSB.o];refine bodyPost_ret (results_cell rfl _ _ _ _ _ _ _ rfl (HB5.o.set _ _) Tryz.underlying30 rfl (by kernel_rfl)) rfl ⟨a,rfl,?_,HO.o.2,?_⟩
 ·exact((HO.o.1.oz).oz).mono hz5
 ·exact(HG5.o.sc).sc
theorem cmpZ_amounts (x y:Int):cmpZ x y=if x<0 then (if y<0 then cmpZ (y.natAbs:Int) (x.natAbs:Int) else -1) else if y<0 then 1 else cmpZ (x.natAbs:Int) (y.natAbs:Int):=by
 by_cases h1:x<0 <;> by_cases h2:y<0
 ·rw[if_pos h1,if_pos h2];exact cmpZ_congr (by omega) (by omega)
 ·rw[if_pos h1,if_neg h2];exact cmpZ_lt (by omega)
 ·rw[if_neg h1,if_pos h2];exact cmpZ_gt (by omega)
 ·rw[if_neg h1,if_neg h2];exact cmpZ_congr (by omega) (by omega)
theorem cmp_any (s1:Bool) (a1:Option Addr) (n1 c1:Nat) (o1:Nat->Int) (s2:Bool) (a2:Option Addr) (n2 c2:Nat) (o2:Nat->Int) (w:World)
  (h1:Rd w a1 n1 o1) (hn1:n1<=100000000) (hc1:n1<=c1) (h2:Rd w a2 n2 o2) (hn2:n2<=100000000) (hc2:n2<=c2) :
  Calls Tryz.prog 210 #[numV s1 a1 n1 c1,numV s2 a2 n2 c2] w fun e w'=>e=.returned (.int .i64 (cmpZ (valN s1 n1 o1) (valN s2 n2 o2)))/\Below w.heap.size w w':=by
 obtain⟨x1,d1,r1,l1,m1,O1⟩:=of_any s1 a1 n1 c1 o1 w h1 (by omega) hc1;obtain⟨x2,d2,r2,l2,m2,O2⟩:=of_any s2 a2 n2 c2 o2 w h2 (by omega) hc2
 generalize valN s1 n1 o1=z1 at r1 l1 m1 O1 ⊢
 have HO1:=qh O1;clear O1
 generalize valN s2 n2 o2=z2 at r2 l2 m2 O2 ⊢
 have HO2:=qh O2;clear O2;have B1:=((Bx.new w 30 (.bool s1) (.slice a1 n1 c1)).alloc (.cells #[.bool s2,.slice a2 n2 c2] 30));have B2:=(Bx.new2 w (.cells #[.bool s1,.slice a1 n1 c1] 30) 30 (.bool s2) (.slice a2 n2 c2));go_enter Tryz.func210,Tryz.ntmps210
 go_upto_region 1 with (fail)
 obtain⟨W,hW⟩:∃ W,W=((w.alloc (.cells #[.bool s1,.slice a1 n1 c1] 30)).alloc (.cells #[.bool s2,.slice a2 n2 c2] 30)):=⟨_,rfl⟩;have G1:=qh ((zk.alloc (by go_size) _ |>.alloc (by go_size) _):Below w.heap.size w ((w.alloc (.cells #[.bool s1,.slice a1 n1 c1] 30)).alloc (.cells #[.bool s2,.slice a2 n2 c2] 30)));rw[<- hW] at B1 B2 G1;rw[show((w.alloc (.cells #[.bool s1,.slice a1 n1 c1] 30)).alloc (.cells #[.bool s2,.slice a2 n2 c2] 30))=W from hW.symm];clear hW;go_cut [] (fun wx=>Bx wx w.heap.size 30 (.bool (decide (z1<0))) (.slice x1 (lenB z1.natAbs) d1)/\Bx wx (w.heap.size+1) 30 (.bool (decide (z2<0))) (.slice x2 (lenB z2.natAbs) d2)/\Below w.heap.size w wx)
 case first =>
  have HS1:=qh (fun (w':World) (hb:Below W.heap.size W w')=>And.intro (B1.below hb B1.lt).c0 (B1.below hb B1.lt).c1);have HS2:=qh (fun (w':World) (hb:Below W.heap.size W w')=>And.intro (B2.below hb B2.lt).c0 (B2.below hb B2.lt).c1);have HB1:=qh B1;have HB2:=qh B2;clear B1 B2
  refine wp_region_fresh 4 (spOf [(1,Sp.know (numV (decide (z1<0)) x1 (lenB z1.natAbs) d1)),(3,Sp.know (numV (decide (z2<0)) x2 (lenB z2.natAbs) d2))]) (fun w'=>Below W.heap.size W w') (by kernel_rfl) (by kernel_rfl)
   (spOf_cons (Sp.know_keeps _) (spOf_cons (Sp.know_keeps _) spOf_nil)) (fun _ _ h hb=>h.trans (hb.mono h.size)) (zk.drew) ?_
  simp only[zx,zy,zv,zw]
  (refine wpF_reads rfl rfl ?_ (fun w' hw'=>?_) ?_;rotate_left;· (have hb':=Has.world hw';(have hs:=HS1.o _ hb');clear hw';go_simp;try rfl))
  (refine wpF_spec rfl rfl (fun w' hw'=>?_) ?_;· (have hb':=Has.world hw';go_simp;((refine(HO1.o w' (G1.o.trans (hb'.mono G1.o.size))).mono ?_;rintro e w'' ⟨rfl,hb⟩;exact⟨_,rfl,rfl,hb⟩))))
  rintro _ rfl
  (refine wpF_reads rfl rfl ?_ (fun w' hw'=>?_) ?_;rotate_left;· (have hb':=Has.world hw';(have hs:=HS2.o _ hb');clear hw';go_simp;try rfl))
  (refine wpF_spec rfl rfl (fun w' hw'=>?_) ?_;· (have hb':=Has.world hw';go_simp;((refine(HO2.o w' (G1.o.trans (hb'.mono G1.o.size))).mono ?_;rintro e w'' ⟨rfl,hb⟩;exact⟨_,rfl,rfl,hb⟩))))
  rintro _ rfl;refine wpF_nil (fun w1 hb1 hF=>?_);clear hF;have C1:=HB1.o.bl hb1;have C2:=HB2.o.bl hb1;have G2:=G1.o.trans (hb1.mono G1.o.size);have K1:=qh C1;have K2:=qh C2;obtain⟨b10,b11,b12,b13⟩:=C1.all;obtain⟨b20,b21,b22,b23⟩:=C2.all;have KG:=qh G2;clear C1 C2 hb1 HS1 HS2 G2;go_wp2_with fail
  go_meet
  case rel =>
   exact⟨((K1.o.set _ _).oz).oz,((K2.o.oz).oz).set _ _,
    (((KG.o.setCell (by simp) _).setCell (by simp) _).setCell (by simp) _).setCell (by simp) _⟩
 case rest =>
  obtain⟨B1,B2,G1⟩:=hcut;obtain⟨w1,rfl⟩:∃ w1,w1=wc:=⟨_,rfl⟩;have R1:=r1.below G1;have R2:=r2.below G1;have AM:=qh (amounts_any z1.natAbs z2.natAbs x1 x2 d1 d2 w1 R1 R2 (by omega) (by omega));have AN:=qh (amounts_any z2.natAbs z1.natAbs x2 x1 d2 d1 w1 R2 R1 (by omega) (by omega));have KG:=qh G1;have E:=qh (cmpZ_amounts z1 z2);obtain⟨b10,b11,b12,b13⟩:=B1.all;obtain⟨b20,b21,b22,b23⟩:=B2.all;clear B1 B2 G1 R1 R2 r1 r2 h1 h2 HO1 HO2
  by_cases n1:z1<0 <;> by_cases n2:z2<0
  ·have E2:=qh (E.o.trans (by rw[if_pos n1,if_pos n2]));rw[decide_eq_true n1] at b10;rw[decide_eq_true n2] at b20;clear n1 n2 E;go_wp2_with fail
   refine AN.o.mono ?_;rintro e w2 ⟨rfl,m,rfl⟩;go_wp2;go_ret;exact⟨by rw[E2.o];rfl,bdrewN KG.o m⟩
  ·have E2:=qh (E.o.trans (by rw[if_pos n1,if_neg n2]));rw[decide_eq_true n1] at b10;rw[zo n2] at b20;clear n1 n2 E;go_wp2;go_ret;exact⟨by rw[E2.o];rfl,KG.o⟩
  ·have E2:=qh (E.o.trans (by rw[if_neg n1,if_pos n2]));rw[zo n1] at b10;rw[decide_eq_true n2] at b20;clear n1 n2 E;go_wp2;go_ret;exact⟨by rw[E2.o];rfl,KG.o⟩
  ·have E2:=qh (E.o.trans (by rw[if_neg n1,if_neg n2]));rw[zo n1] at b10;rw[zo n2] at b20;clear n1 n2 E;go_wp2_with fail
   refine AM.o.mono ?_;rintro e w2 ⟨rfl,m,rfl⟩;go_wp2;go_ret;exact⟨by rw[E2.o];rfl,bdrewN KG.o m⟩
theorem valN_none:valN false 0 (fun _=>0)=0:=by
 unfold valN
 split <;> rfl
theorem sign_any (s1:Bool) (a1:Option Addr) (n1 c1:Nat) (o1:Nat->Int) (w:World) (h1:Rd w a1 n1 o1) (hn1:n1<=100000000) (hc1:n1<=c1) :
  Calls Tryz.prog 171 #[numV s1 a1 n1 c1] w fun e w'=>e=.returned (.int .i64 (cmpZ (valN s1 n1 o1) 0))/\Below w.heap.size w w':=by
 have HR:=qh h1;clear h1;go_enter Tryz.func171,Tryz.ntmps171;go_wp2_with fail
 refine(cmp_any s1 a1 n1 c1 o1 false none 0 0 (fun _=>0) _ (HR.o.below (w':=_) ?_) hn1 hc1 (Rd.nil _ _ _) (by omega) zj).mono ?_
 ·exact qg
 rw[valN_none];rintro e w1 ⟨rfl,hb1⟩;have G1:=(zk.alloc (by go_size) _).trans (hb1.mono (by go_size));clear hb1;go_wp2;go_ret;exact⟨rfl,G1⟩
open Classical in
theorem rcheck_any (s:Bool) (a:Option Addr) (n cap:Nat) (o:Nat->Int) (w:World) (h:Rd w a n o) (hn:n<=1000000000) :
  Calls Tryz.prog 188 #[numV s a n cap] w fun e w'=>e=.returned (.bool (decide (okN s n o)))/\Below w.heap.size w w':=by
 obtain⟨k0,hk0,hf,hb⟩:=first_bad o n;have HF:=qh hf;have HB:=qh hb;have HR:=qh h;have EN:=qh (fun (hk:k0<n)=>show decide (okN s n o)=false from zo fun hh=>by have:=hh.1 k0 hk;have:=hb hk;omega)
 have E0:=qh (fun (h0:n=0)=>show decide (okN s n o) = !s by
    subst h0
    cases s with
    | false=>exact decide_eq_true ⟨fun i hi=>by omega,fun _=>rfl,fun h=>by omega⟩
    | true=>exact zo fun hh=>by have:=hh.2.1 rfl;contradiction)
 have E1:=qh (fun (h0:0<n) (hk:¬k0<n)=>show decide (okN s n o)=(o (n-1) != 0) by
    by_cases hz:o (n-1)=0
    ·rw[hz];exact zo fun hh=>hh.2.2 (by omega) hz
    ·rw[show(o (n-1) != 0)=true by simpa using hz]
     exact decide_eq_true ⟨fun i hi=>hf i (by omega),fun h=>by omega,fun _=>hz⟩)
 clear hf hb h;go_enter Tryz.func188,Tryz.ntmps188;go_wp2_with fail
 go_loopw [3] (fun i wr=>∃ j:Nat,j<=k0/\i=.int .i64 j/\wr=w.alloc (.cells #[.bool s,.slice a n cap] 30)) (fun i _=>n-(intOf i).toNat)
 case atStart=>exact⟨0,by omega,rfl,rfl⟩
 case round =>
  obtain⟨j,hj,rfl,rfl⟩:=hrel;by_cases hjn:j<n
  ·obtain⟨b,off,rfl,hc⟩:=HR.o.cells (by omega);have c1:w.cell? ⟨b,off+j,none⟩=some (.int .u32 (o j)):=hc j hjn;have hlt:b<w.heap.size:=block_lt_of_cell c1;clear hc;by_cases hjk:j<k0
   ·have D:=HF.o j hjk;go_wp2_with fail
    go_roundw
    case rel=>exact⟨j+1,by omega,by go_num,by trivial⟩
    case measure=>simp[intOf];omega
   ·obtain rfl:j=k0:=by omega
    have D:=HB.o hjn;go_wp2_with fail
    go_ret;exact⟨by rw[EN.o hjn];rfl,qg⟩
  ·have hkn:¬k0<n:=by omega
   obtain rfl:j=n:=by omega
   by_cases h0:j=0
   ·have E:=qh (E0.o h0);subst h0;go_wp2_with fail
    go_ret;exact⟨by rw[E.o];rfl,qg⟩
   ·obtain⟨q,rfl⟩:∃ q,j=q+1:=⟨j-1,by omega⟩;have E:=qh (E1.o (by omega) hkn);obtain⟨b,off,rfl,hc⟩:=HR.o.cells (by omega);have c1:w.cell? ⟨b,off+q,none⟩=some (.int .u32 (o q)):=hc q (by omega);have hlt:b<w.heap.size:=block_lt_of_cell c1
    have ex:((q+1:Nat):Int)-1=(q:Int):=by omega
    have ez:(decide (((q+1:Nat):Int)=0))=false:=by simp;omega
    clear hc;go_wp2_with fail
    go_ret;exact⟨by rw[E.o];rfl,qg⟩
open Classical in
theorem fit_any (s:Bool) (a:Option Addr) (n cap:Nat) (o:Nat->Int) (w:World) (h:Rd w a n o) (hn:n<=1000000000) (hcap:n<=cap) :
  ∃ a' cap',Rd w a' (lenB (valN s n o).natAbs) (dgi (valN s n o).natAbs)/\lenB (valN s n o).natAbs<=n/\lenB (valN s n o).natAbs<=cap' /\
   ∀ w1,Below w.heap.size w w1->Calls Tryz.prog 205 #[numV s a n cap] w1 fun e w'=>e=.returned (numV (decide (valN s n o<0)) a' (lenB (valN s n o).natAbs) cap')/\Below w1.heap.size w1 w':=by
 by_cases hk:okN s n o
 ·obtain⟨f1,f2,f3⟩:=of_facts s n o hk h.rng;rw[f1,f2];refine⟨a,cap,h.congr f3,zj,hcap,fun w1 hb1=>?_⟩;have C:=qh (fun (w2:World) (hw:Below w1.heap.size w1 w2)=>rcheck_any s a n cap o w2 (h.below (hb1.trans (hw.mono hb1.size))) hn);rw[decide_eq_true hk] at C;clear h f1 f2 f3 hk hb1;go_enter Tryz.func205,Tryz.ntmps205;go_wp2_with fail
  refine(C.o _ ?_).mono ?_
  ·exact qg
  rintro e w2 ⟨rfl,hb2⟩;have B1:=((Bx.new w1 30 (.bool s) (.slice a n cap)).alloc (.cells #[.bool false,.slice none 0 0] 30)).below hb2 (by simp;omega);have B2:=(Bx.new2 w1 (.cells #[.bool s,.slice a n cap] 30) 30 (.bool false) (.slice none 0 0)).below hb2 (by simp);have hb0:Below w1.heap.size w1 w2:=(zk.alloc zj _ |>.alloc (by go_size) _).trans (hb2.mono (by go_size));obtain⟨b10,b11,b12,b13⟩:=B1.all;obtain⟨b20,b21,b22,b23⟩:=B2.all;have HB:=qh B2;clear hb2 B1 B2;go_wp2;refine bodyPost_ret (results_cell rfl _ _ _ _ _ _ _ rfl (HB.o.set _ _) Tryz.underlying30 rfl (by kernel_rfl)) rfl ⟨rfl,?_⟩;exact qg
 ·rw[show valN s n o=0 from valN_not hk];rw[show(Int.natAbs 0)=0 from rfl,lenB_zero,show decide ((0:Int)<0)=false from rfl];refine⟨none,0,Rd.nil _ _ _,Nat.zero_le _,zj,fun w1 hb1=>?_⟩;have C:=qh (fun (w2:World) (hw:Below w1.heap.size w1 w2)=>rcheck_any s a n cap o w2 (h.below (hb1.trans (hw.mono hb1.size))) hn);rw[zo hk] at C;clear h hk hb1;go_enter Tryz.func205,Tryz.ntmps205;go_wp2_with fail
  refine(C.o _ ?_).mono ?_
  ·exact qg
  rintro e w2 ⟨rfl,hb2⟩;have B2:=(Bx.new2 w1 (.cells #[.bool s,.slice a n cap] 30) 30 (.bool false) (.slice none 0 0)).below hb2 (by simp);have hb0:Below w1.heap.size w1 w2:=(zk.alloc zj _ |>.alloc (by go_size) _).trans (hb2.mono (by go_size));obtain⟨b20,b21,b22,b23⟩:=B2.all;have HB:=qh B2;clear hb2 B2;go_wp2;refine bodyPost_ret (results_cell rfl _ _ _ _ _ _ _ rfl (HB.o.set _ _) Tryz.underlying30 rfl (by kernel_rfl)) rfl ⟨rfl,?_⟩;exact qg
theorem rows_upd {w:World} {g n j:Nat} {p:Nat->Int} (h:w.rowIs g 128 n (uc p)) (v:Int):(w.setCell ⟨g,j,none⟩ (.int .u32 v)).rowIs g 128 n (uc (upd p j v)) :=
 (h.set j (.int .u32 v)).congr fun i hi=>by
  by_cases e:i=j
  ·subst e;rw[if_pos rfl];show _=Value.int .u32 (upd p i v i);rw[upd_same]
  ·rw[if_neg e];show Value.int .u32 (p i)=Value.int .u32 (upd p j v i);rw[upd_ne p v e]
theorem mul_sign (z1 z2:Int):((!(decide (z1<0)==decide (z2<0)))&&decide (0<lenB (z1*z2).natAbs))=decide (z1*z2<0):=by
 have e0:=pos_len (z:=z1*z2)
 rcases Int.lt_trichotomy z1 0 with h1 | h1 | h1
 ·rcases Int.lt_trichotomy z2 0 with h2 | h2 | h2
  ·have:=Int.mul_pos_of_neg_of_neg h1 h2;simp[h1,h2];omega
  ·subst h2;simp[h1,lenB_zero]
  ·have:=Int.mul_neg_of_neg_of_pos h1 h2
   have h3:¬z2<0:=by omega
   simp only[h1,h3,decide_true,decide_false,Bool.true_beq,Bool.not_false,Bool.true_and];exact decide_eq_decide.2 (e0.trans (by omega))
 ·subst h1;simp[lenB_zero]
 ·rcases Int.lt_trichotomy z2 0 with h2 | h2 | h2
  ·have:=Int.mul_neg_of_pos_of_neg h1 h2
   have h3:¬z1<0:=by omega
   simp only[h2,h3,decide_true,decide_false,Bool.false_beq,Bool.not_true,Bool.not_false,Bool.true_and];exact decide_eq_decide.2 (e0.trans (by omega))
  ·subst h2;simp[lenB_zero]
  ·have:=Int.mul_pos h1 h2
   have h3:¬z1<0:=by omega
   have h4:¬z2<0:=by omega
   simp[h3,h4];omega
theorem mul_any (s1:Bool) (a1:Option Addr) (n1 c1:Nat) (o1:Nat->Int) (s2:Bool) (a2:Option Addr) (n2 c2:Nat) (o2:Nat->Int) (w:World)
  (h1:Rd w a1 n1 o1) (hn1:n1<=100000000) (hc1:n1<=c1) (h2:Rd w a2 n2 o2) (hn2:n2<=100000000) (hc2:n2<=c2) :
  Calls Tryz.prog 105 #[numV s1 a1 n1 c1,numV s2 a2 n2 c2] w (ResN w (valN s1 n1 o1*valN s2 n2 o2)):=by
 obtain⟨x1,d1,r1,l1,m1,O1⟩:=of_any s1 a1 n1 c1 o1 w h1 (by omega) hc1;obtain⟨x2,d2,r2,l2,m2,O2⟩:=of_any s2 a2 n2 c2 o2 w h2 (by omega) hc2
 generalize valN s1 n1 o1=z1 at r1 l1 m1 O1 ⊢
 have HO1:=qh O1;clear O1
 generalize valN s2 n2 o2=z2 at r2 l2 m2 O2 ⊢
 have HO2:=qh O2;clear O2;have B1:=(((Bx.new w 30 (.bool s1) (.slice a1 n1 c1)).alloc (.cells #[.bool s2,.slice a2 n2 c2] 30)).alloc (.cells #[.bool false,.slice none 0 0] 30));have B2:=((Bx.new2 w (.cells #[.bool s1,.slice a1 n1 c1] 30) 30 (.bool s2) (.slice a2 n2 c2)).alloc (.cells #[.bool false,.slice none 0 0] 30));have B3:=(Bx.new3 w (.cells #[.bool s1,.slice a1 n1 c1] 30) (.cells #[.bool s2,.slice a2 n2 c2] 30) 30 (.bool false) (.slice none 0 0));go_enter Tryz.func105,Tryz.ntmps105
 go_upto_region 1 with (fail)
 obtain⟨W,hW⟩:∃ W,W=(((w.alloc (.cells #[.bool s1,.slice a1 n1 c1] 30)).alloc (.cells #[.bool s2,.slice a2 n2 c2] 30)).alloc (.cells #[.bool false,.slice none 0 0] 30)):=⟨_,rfl⟩;have G1:=qh ((zk.alloc (by go_size) _ |>.alloc (by go_size) _ |>.alloc (by go_size) _):Below w.heap.size w (((w.alloc (.cells #[.bool s1,.slice a1 n1 c1] 30)).alloc (.cells #[.bool s2,.slice a2 n2 c2] 30)).alloc (.cells #[.bool false,.slice none 0 0] 30)));rw[<- hW] at B1 B2 B3 G1;rw[show(((w.alloc (.cells #[.bool s1,.slice a1 n1 c1] 30)).alloc (.cells #[.bool s2,.slice a2 n2 c2] 30)).alloc (.cells #[.bool false,.slice none 0 0] 30))=W from hW.symm];clear hW
 go_cut [] (fun wx=>Bx wx w.heap.size 30 (.bool (decide (z1<0))) (.slice x1 (lenB z1.natAbs) d1)/\Bx wx (w.heap.size+1) 30 (.bool (decide (z2<0))) (.slice x2 (lenB z2.natAbs) d2) /\
  Bx wx (w.heap.size+1+1) 30 (.bool false) (.slice none 0 0)/\Below w.heap.size w wx)
 case first =>
  have HS1:=qh (fun (w':World) (hb:Below W.heap.size W w')=>And.intro (B1.below hb B1.lt).c0 (B1.below hb B1.lt).c1);have HS2:=qh (fun (w':World) (hb:Below W.heap.size W w')=>And.intro (B2.below hb B2.lt).c0 (B2.below hb B2.lt).c1);have HB1:=qh B1;have HB2:=qh B2;have HB3:=qh B3;clear B1 B2 B3
  refine wp_region_fresh 4 (spOf [(1,Sp.know (numV (decide (z1<0)) x1 (lenB z1.natAbs) d1)),(3,Sp.know (numV (decide (z2<0)) x2 (lenB z2.natAbs) d2))]) (fun w'=>Below W.heap.size W w') (by kernel_rfl) (by kernel_rfl)
   (spOf_cons (Sp.know_keeps _) (spOf_cons (Sp.know_keeps _) spOf_nil)) (fun _ _ h hb=>h.trans (hb.mono h.size)) (zk.drew) ?_
  simp only[zx,zy,zv,zw]
  (refine wpF_reads rfl rfl ?_ (fun w' hw'=>?_) ?_;rotate_left;· (have hb':=Has.world hw';(have hs:=HS1.o _ hb');clear hw';go_simp;try rfl))
  (refine wpF_spec rfl rfl (fun w' hw'=>?_) ?_;· (have hb':=Has.world hw';go_simp;((refine(HO1.o w' (G1.o.trans (hb'.mono G1.o.size))).mono ?_;rintro e w'' ⟨rfl,hb⟩;exact⟨_,rfl,rfl,hb⟩))))
  rintro _ rfl
  (refine wpF_reads rfl rfl ?_ (fun w' hw'=>?_) ?_;rotate_left;· (have hb':=Has.world hw';(have hs:=HS2.o _ hb');clear hw';go_simp;try rfl))
  (refine wpF_spec rfl rfl (fun w' hw'=>?_) ?_;· (have hb':=Has.world hw';go_simp;((refine(HO2.o w' (G1.o.trans (hb'.mono G1.o.size))).mono ?_;rintro e w'' ⟨rfl,hb⟩;exact⟨_,rfl,rfl,hb⟩))))
  rintro _ rfl;refine wpF_nil (fun w1 hb1 hF=>?_);clear hF;have C1:=HB1.o.bl hb1;have C2:=HB2.o.bl hb1;have C3:=HB3.o.bl hb1;have G2:=G1.o.trans (hb1.mono G1.o.size);have K1:=qh C1;have K2:=qh C2;have K3:=qh C3;obtain⟨b10,b11,b12,b13⟩:=C1.all;obtain⟨b20,b21,b22,b23⟩:=C2.all;have KG:=qh G2;clear C1 C2 C3 hb1 HS1 HS2 G2;go_wp2_with fail
  go_meet
  case rel =>
   exact⟨((K1.o.set _ _).oz).oz,((K2.o.oz).oz).set _ _,(((K3.o.oz).oz).oz).oz,
    (((KG.o.setCell (by simp) _).setCell (by simp) _).setCell (by simp) _).setCell (by simp) _⟩
 case rest =>
  obtain⟨B1,B2,B3,G1⟩:=hcut;obtain⟨w1,rfl⟩:∃ w1,w1=wc:=⟨_,rfl⟩;have HR1:=qh r1;have HR2:=qh r2;have KG:=qh G1;have K1:=qh B1;have K2:=qh B2;have K3:=qh B3;obtain⟨b10,b11,b12,b13⟩:=B1.all;obtain⟨b20,b21,b22,b23⟩:=B2.all;obtain⟨n,hn⟩:∃ n,n=lenB z1.natAbs+lenB z2.natAbs:=⟨_,rfl⟩;have HN:=qh hn
  have hnb:n<=200000000:=by omega
  have ew:((lenB z1.natAbs:Nat):Int)+((lenB z2.natAbs:Nat):Int)=(n:Int):=by omega
  have hmk:=run_make_row' (P:=Tryz.prog) 28 128 (.int .u32 0) 4 Tryz.underlying28 info32 rfl .i64 .i64 n (by omega) (by omega);clear B1 B2 B3 G1 r1 r2 h1 h2 HO1 HO2 hn;obtain⟨X,hX⟩:∃ X,X=lenB z1.natAbs:=⟨_,rfl⟩;obtain⟨Y,hY⟩:∃ Y,Y=lenB z2.natAbs:=⟨_,rfl⟩;rw[<- hX] at b11 HR1 ew l1 m1 HN;rw[<- hY] at b21 HR2 ew l2 m2 HN;have HX:=qh hX;have HY:=qh hY;have hz1:=K3.o.lt;clear hX hY;obtain⟨fx,hfx⟩:∃ fx,fx=dgi z1.natAbs:=⟨_,rfl⟩;obtain⟨fy,hfy⟩:∃ fy,fy=dgi z2.natAbs:=⟨_,rfl⟩;have DX:=qh (show Dig fx X by rw[hfx];exact dgi_Dig _ _);have DY:=qh (show Dig fy Y by rw[hfy];exact dgi_Dig _ _);have SX:=qh (show sumB fx X=z1.natAbs by rw[hfx,HX.o];exact sumB_dgi _);have SY:=qh (show sumB fy Y=z2.natAbs by rw[hfy,HY.o];exact sumB_dgi _);rw[<- hfx] at HR1;rw[<- hfy] at HR2;clear hfx hfy;go_wp2_with fail
  go_loopw [26] (fun i wr=>∃ k:Nat,k<=X/\i=.int .i64 k/\(∃ o,MulRow fx fy Y n k o/\wr.rowIs w1.heap.size 128 n (uc o)) /\
   Bx wr w.heap.size 30 (.bool (decide (z1<0))) (.slice x1 X d1)/\Bx wr (w.heap.size+1) 30 (.bool (decide (z2<0))) (.slice x2 Y d2) /\
   Bx wr (w.heap.size+1+1) 30 (.bool false) (.slice none 0 0)/\Below w.heap.size w wr) (fun i _=>X-(intOf i).toNat)
  case atStart =>
   exact⟨0,by omega,rfl,⟨_,MulRow.start _ _ _ _,World.rowIs_made w1 (.int .u32 0) n 128⟩,(HX.o▸K1.o).alloc _,(HY.o▸K2.o).alloc _,K3.o.alloc _,KG.o.alloc KG.o.size _⟩
  case round =>
   obtain⟨k,hk,rfl,⟨o,hM,hR⟩,B1,B2,B3,G⟩:=hrel;have KM:=qh hM;have KR:=qh hR;have KG1:=qh G;have J1:=qh B1;have J2:=qh B2;have J3:=qh B3;obtain⟨b20,b21,b22,b23⟩:=B2.all;obtain⟨b10,b11,b12,b13⟩:=B1.all;clear hM hR G B1 B2 B3 hmk;by_cases hkX:k<X
   ·obtain⟨pb,po,rfl,hc⟩:=(HR1.o.below KG1.o).cells (by omega);have c1:=hc k hkX;clear hc;go_wp2_with fail
    go_loopw [8,34] (fun on i wr2=>∃ j:Nat,j<=Y/\i=.int .i64 j/\(∃ p v,on=.int .u64 v/\MulIn fx fy Y n k j p v/\wr2.rowIs w1.heap.size 128 n (uc p)) /\
     Bx wr2 w.heap.size 30 (.bool (decide (z1<0))) (.slice (some ⟨pb,po,none⟩) X d1)/\Bx wr2 (w.heap.size+1) 30 (.bool (decide (z2<0))) (.slice x2 Y d2) /\
     Bx wr2 (w.heap.size+1+1) 30 (.bool false) (.slice none 0 0)/\Below w.heap.size w wr2) (fun _ i _=>Y-(intOf i).toNat)
    case atStart=>exact⟨0,by omega,rfl,⟨_,_,rfl,KM.o.inner,KR.o⟩,J1.o,J2.o,J3.o,KG1.o⟩
    case round =>
     obtain⟨j,hj,rfl,⟨p,v,rfl,hI,hR⟩,B1,B2,B3,G⟩:=hrel;have LM:=qh hI;have LR:=qh hR;have LG:=qh G;have L1:=qh B1;have L2:=qh B2;have L3:=qh B3;clear b10 b11 b12 b13 b20 b21 b22 b23 c1;obtain⟨b20,b21,b22,b23⟩:=B2.all;have hfz:=hR.frozen;clear hI hR G B1 B2 B3;by_cases hjY:j<Y
     ·obtain⟨qb,qo,rfl,hc⟩:=(HR2.o.below LG.o).cells (by omega);have c2:wr.cell? ⟨qb,qo+j,none⟩=some (.int .u32 (fy j)):=hc j hjY;have c3:wr.cell? ⟨w1.heap.size,k+j,none⟩=some (.int .u32 (p (k+j))):=LR.o.cell (i:=k+j) (by have:=HN.o;omega);have hx:=DX.o k hkX;have hy:=DY.o j hjY;obtain⟨hT,hS⟩:=LM.o.step hx hy hjY (by have:=HN.o;omega);have hpd:=LM.o.dig (k+j) (by have:=HN.o;omega);have hon:=LM.o.on0;have hb:=mul_bd hx hy
      have hkn:k+j<n:=by have:=HN.o;omega
      have HSt:=qh hS;have w1':=IntWalk.u64_in (fx k) (by omega);have w2':=IntWalk.u64_in (fy j) (by omega);have w3':=IntWalk.u64_in (p (k+j)) (by omega);have w4':=IntWalk.u64_in (fx k*fy j) (by omega);have w5':=IntWalk.u64_in (fx k*fy j+p (k+j)) (by omega);have w6':=IntWalk.u64_in (v+(fx k*fy j+p (k+j))) (by omega);have t1:(v+(fx k*fy j+p (k+j))).tmod 1000000000=(v+(fx k*fy j+p (k+j)))%1000000000:=Int.tmod_eq_emod_of_nonneg hT.1;have t2:(v+(fx k*fy j+p (k+j))).tdiv 1000000000=(v+(fx k*fy j+p (k+j)))/1000000000:=Int.tdiv_eq_ediv_of_nonneg hT.1;have w7':=IntWalk.u32_in ((v+(fx k*fy j+p (k+j)))%1000000000) (by omega);have w8':=IntWalk.u64_in ((v+(fx k*fy j+p (k+j)))/1000000000) (by omega);clear hc hS hT hpd hon hb hx hy;dsimp only[uc];go_wp2_with fail
      go_roundw
      case rel=>exact⟨j+1,by omega,by go_num,⟨_,_,rfl,HSt.o,rows_upd LR.o _⟩,L1.o.oz,L2.o.oz,L3.o.oz,LG.o.sc⟩
      case measure=>simp[intOf];omega
     ·obtain rfl:j=Y:=by omega
      obtain⟨vo,hco⟩:∃ vo,wr.cell? ⟨w1.heap.size,k+j,none⟩=some vo:=⟨_,LR.o.cell (i:=k+j) (by have:=HN.o;omega)⟩
      have hkn:k+j<n:=by have:=HN.o;omega
      have hon:=LM.o.on0;have w7':=IntWalk.u32_in v (by omega);have HSt:=qh (LM.o.row hkn);go_wp2_with fail
      go_roundw
      case rel=>exact⟨k+1,by omega,by go_num,⟨_,HSt.o,rows_upd LR.o _⟩,L1.o.oz,L2.o.oz,L3.o.oz,LG.o.sc⟩
      case measure=>simp[intOf];omega
   ·obtain rfl:k=X:=by omega
    have hM:=KM.o;have hR:=KR.o
    have ht:(sumB o n).toNat=(z1*z2).natAbs:=by
     rw[hM.sum,SX.o,SY.o,Int.natAbs_mul,<- Int.natCast_mul,Int.toNat_natCast]
    have OW:=qh (Own.of_rowIs hR zj (fun i hi=>by have:=hM.dig i hi;omega));have C:=cut_any (!(decide (z1<0)==decide (z2<0))) (some ⟨w1.heap.size,0,none⟩) n n o wr OW.o.rd hM.dig (by omega) zj (fun h=>by cases h);have hL:=lenB_le_of hM.dig
    have hD:=fun i hi=>dg_sumB hM.dig i hi
    rw[ht,mul_sign] at C;rw[ht] at hL hD;obtain⟨sB,hsB⟩:∃ sB,sB=decide (z1*z2<0):=⟨_,rfl⟩;obtain⟨L,hLL⟩:∃ L,L=lenB (z1*z2).natAbs:=⟨_,rfl⟩;rw[<- hsB,<- hLL] at C;rw[<- hLL] at hL;have HC:=qh C;have HL:=qh hL;have HD:=qh hD;have HSB:=qh hsB;have HLL:=qh hLL;clear hM hR ht C hL hD hsB hLL;go_wp2_with fail
    refine HC.o.mono ?_;rintro e w2 ⟨rfl,hb2⟩;have B3:=J3.o.bl hb2;have K5:=qh B3;have O2:=qh ((OW.o.below hb2).cut HL.o (fun i hi=>(HD.o i (by have:=HL.o;omega)).symm));have G2:=qh (KG1.o.trans (hb2.mono KG1.o.size));have hz2:=KG.o.size;obtain⟨b30,b31,b32,b33⟩:=B3.all;clear B3 hb2 b10 b11 b12 b13 b20 b21 b22 b23;go_wp2_with fail
    unfold ResN;rw[<- HSB.o,<- HLL.o];refine bodyPost_ret (results_cell rfl _ _ _ _ _ _ _ rfl (K5.o.set _ _) Tryz.underlying30 rfl (by kernel_rfl)) rfl ⟨_,rfl,?_,(fun h=>by cases h),?_⟩
    ·exact((O2.o.oz).oz).mono hz2
    ·exact(G2.o.sc).sc
end Limb
end Go.Proofs.YthacfgmdihcffaaGreatDoor
