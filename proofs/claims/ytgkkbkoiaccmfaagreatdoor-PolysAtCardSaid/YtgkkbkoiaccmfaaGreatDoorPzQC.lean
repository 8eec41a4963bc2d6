/-
  The walks of short of package limbs and small of the document's answer: an amount by one part.
-/
import Derived.Test.YtgkkbkoiaccmfaaGreatDoorPzQB
import Derived.Lib.SliceRun
import Derived.Deep.DeepCutAuto
import Derived.Deep.RegionHeld3
set_option linter.unusedSimpArgs false
set_option linter.unusedVariables false
set_option maxHeartbeats 16000000
set_option maxRecDepth 100000
namespace Go.Proofs.YtgkkbkoiaccmfaaGreatDoor
namespace Mono
open Go.RowKit Go.Sort
def JH (n:Int):Int:=if 0<n then 1 else if n<0 then -1 else 0
theorem QQ (x y:Int):JH (x-y)=JB x y:=by
 unfold JH JB;by_cases h:x<y
 ·rw[if_pos h,if_neg (by omega),if_pos (by omega)]
 ·rw[if_neg h];by_cases h2:y<x
  ·rw[if_pos h2,if_pos (by omega)]
  ·rw[if_neg h2,if_neg (by omega),if_neg (by omega)]
theorem Zv {x y:Int}:JB x y=0↔x=y:=by
 unfold JB;by_cases h:x<y
 ·simp[h];omega
 ·by_cases h2:y<x
  ·simp[h,h2];omega
  ·simp[h,h2];omega
theorem je5 {a b:Nat->Int}:Xx a b=0↔∀ k,k<4->a k=b k:=by
 obtain⟨k,h⟩:=XU a b;rw[XV h];by_cases hk:k<4
 ·rw[if_pos hk,Zv];exact⟨fun e=>absurd e (h.2.2 hk),fun e=>e k hk⟩
 ·rw[if_neg hk];exact⟨fun _ j hj=>h.2.1 j (by omega),fun _=>rfl⟩
theorem je6 {a b:Nat->Int} (h:Xx (Kt b) (Kt a)=0):Xx a b=0:=by
 rw[je5] at h ⊢;intro k hk;have:=h (3-k) (by omega);simp only[Kt] at this;rw[show 3-(3-k)=k by omega] at this;exact this.symm
def tailM (o:Int) (a b:Nat->Int):Int:=if o=2 then Xx (Kt b) (Kt a) else Xx a b
theorem Vi {o:Int} {a b:Nat->Int} (ho:o=1\/o=2) (h:¬JU a=JU b):Zd o a b=JH (JU a-JU b):=by
 have hz:¬JB (JU a) (JU b)=0:=fun e=>h (Zv.1 e)
 rw[QQ];unfold Zd
 rcases ho with rfl | rfl
 ·rw[if_pos rfl,if_neg hz]
 ·rw[if_neg (by omega),if_pos rfl,if_neg hz]
theorem Zw {o:Int} {a b:Nat->Int} (h:(o=1\/o=2)->JU a=JU b):Zd o a b=tailM o a b:=by
 unfold Zd tailM;by_cases h1:o=1
 ·rw[if_pos h1,if_pos (Zv.2 (h (Or.inl h1))),if_neg (show ¬o=2 by omega)]
 ·rw[if_neg h1];by_cases h2:o=2
  ·rw[if_pos h2,if_pos h2,if_pos (Zv.2 (h (Or.inr h2)))];by_cases h3:Xx (Kt b) (Kt a)=0
   ·rw[if_pos h3,h3];exact je6 h3
   ·rw[if_neg h3]
  ·rw[if_neg h2,if_neg h2]
theorem je7 (a b:Nat->Int) (h:¬JU a=JU b) (w:World) (ha:Small a) (hb:Small b) :
  Calls Tryz.prog 151 #[.int .u8 1,mvf a,mvf b] w fun e w'=>e=.returned (.int .i64 (Zd 1 a b))/\Below w.heap.size w w':=by
 have HA:=qh ha;clear ha;have HB:=qh hb;clear hb;have HX:=qh (boxes w 69 a b);have E:=qh (Vi (o:=1) (by omega) h);obtain⟨a0,a1,a2,a3⟩:=YM HX.o.1;obtain⟨b0,b1,b2,b3⟩:=YM HX.o.2
 have d1:0<=JU a/\JU a<=262140:=by have:=HA.o 0 (by omega);have:=HA.o 1 (by omega);have:=HA.o 2 (by omega);have:=HA.o 3 (by omega);unfold JU;omega
 have d2:0<=JU b/\JU b<=262140:=by have:=HB.o 0 (by omega);have:=HB.o 1 (by omega);have:=HB.o 2 (by omega);have:=HB.o 3 (by omega);unfold JU;omega
 have es:=IntWalk.i64_in (JU a-JU b) (by omega)
 have hz:(JU a-JU b != 0)=true:=by simp;omega
 rcases Int.lt_or_gt_of_ne h with h' | h'
 ·have E2:=qh (show JH (JU a-JU b) = -1 by unfold JH;rw[if_neg (by omega),if_pos (by omega)]);clear h;go_enter Tryz.func151,Tryz.ntmps151;go_wp2_with fail
  refine wp_region_quiet_below (by kernel_rfl) (by kernel_rfl) ?_
  repeat (go_big_quiet_step (first
   | (go_at_call 230;first | (with_reducible exact Calls.regrown_of (JV a _ HA.o)) | (with_reducible exact Calls.regrown_of (JV b _ HB.o)))))
  refine wpQuiet_nil ?_;intro w5 hw5;obtain⟨q,hq⟩:=hw5;have hb5:=below_regrown ((w.alloc (.cells (Zc a) 69)).alloc (.cells (Zc b) 69)) q.d q.os;rw[<- show w5=_ from hq] at hb5;clear hq;have A5:=qh (J6 HX.o.1 hb5 (by simp;omega));have B5:=qh (J6 HX.o.2 hb5 (by simp));have G5:=qh (zk.alloc zj _ |>.alloc (by go_size) _ |>.trans (hb5.mono (by go_size)):Below w.heap.size w w5);clear hb5 es a0 a1 a2 a3 b0 b1 b2 b3 HX;go_wp2;go_ret;exact⟨by rw[E.o,E2.o];rfl,G5.o⟩
 ·have E2:=qh (show JH (JU a-JU b)=1 by unfold JH;rw[if_pos (by omega)]);clear h;go_enter Tryz.func151,Tryz.ntmps151;go_wp2_with fail
  refine wp_region_quiet_below (by kernel_rfl) (by kernel_rfl) ?_
  repeat (go_big_quiet_step (first
   | (go_at_call 230;first | (with_reducible exact Calls.regrown_of (JV a _ HA.o)) | (with_reducible exact Calls.regrown_of (JV b _ HB.o)))))
  refine wpQuiet_nil ?_;intro w5 hw5;obtain⟨q,hq⟩:=hw5;have hb5:=below_regrown ((w.alloc (.cells (Zc a) 69)).alloc (.cells (Zc b) 69)) q.d q.os;rw[<- show w5=_ from hq] at hb5;clear hq;have A5:=qh (J6 HX.o.1 hb5 (by simp;omega));have B5:=qh (J6 HX.o.2 hb5 (by simp));have G5:=qh (zk.alloc zj _ |>.alloc (by go_size) _ |>.trans (hb5.mono (by go_size)):Below w.heap.size w w5);clear hb5 es a0 a1 a2 a3 b0 b1 b2 b3 HX;go_wp2;go_ret;exact⟨by rw[E.o,E2.o];rfl,G5.o⟩
theorem je8 (a b:Nat->Int) (h:¬JU a=JU b) (w:World) (ha:Small a) (hb:Small b) :
  Calls Tryz.prog 151 #[.int .u8 2,mvf a,mvf b] w fun e w'=>e=.returned (.int .i64 (Zd 2 a b))/\Below w.heap.size w w':=by
 have HA:=qh ha;clear ha;have HB:=qh hb;clear hb;have HX:=qh (boxes w 69 a b);have E:=qh (Vi (o:=2) (by omega) h);obtain⟨a0,a1,a2,a3⟩:=YM HX.o.1;obtain⟨b0,b1,b2,b3⟩:=YM HX.o.2
 have d1:0<=JU a/\JU a<=262140:=by have:=HA.o 0 (by omega);have:=HA.o 1 (by omega);have:=HA.o 2 (by omega);have:=HA.o 3 (by omega);unfold JU;omega
 have d2:0<=JU b/\JU b<=262140:=by have:=HB.o 0 (by omega);have:=HB.o 1 (by omega);have:=HB.o 2 (by omega);have:=HB.o 3 (by omega);unfold JU;omega
 have es:=IntWalk.i64_in (JU a-JU b) (by omega)
 have hz:(JU a-JU b != 0)=true:=by simp;omega
 rcases Int.lt_or_gt_of_ne h with h' | h'
 ·have E2:=qh (show JH (JU a-JU b) = -1 by unfold JH;rw[if_neg (by omega),if_pos (by omega)]);clear h;go_enter Tryz.func151,Tryz.ntmps151;go_wp2_with fail
  refine wp_region_quiet_below (by kernel_rfl) (by kernel_rfl) ?_
  repeat (go_big_quiet_step (first
   | (go_at_call 230;first | (with_reducible exact Calls.regrown_of (JV a _ HA.o)) | (with_reducible exact Calls.regrown_of (JV b _ HB.o)))))
  refine wpQuiet_nil ?_;intro w5 hw5;obtain⟨q,hq⟩:=hw5;have hb5:=below_regrown ((w.alloc (.cells (Zc a) 69)).alloc (.cells (Zc b) 69)) q.d q.os;rw[<- show w5=_ from hq] at hb5;clear hq;have A5:=qh (J6 HX.o.1 hb5 (by simp;omega));have B5:=qh (J6 HX.o.2 hb5 (by simp));have G5:=qh (zk.alloc zj _ |>.alloc (by go_size) _ |>.trans (hb5.mono (by go_size)):Below w.heap.size w w5);clear hb5 es a0 a1 a2 a3 b0 b1 b2 b3 HX;go_wp2;go_ret;exact⟨by rw[E.o,E2.o];rfl,G5.o⟩
 ·have E2:=qh (show JH (JU a-JU b)=1 by unfold JH;rw[if_pos (by omega)]);clear h;go_enter Tryz.func151,Tryz.ntmps151;go_wp2_with fail
  refine wp_region_quiet_below (by kernel_rfl) (by kernel_rfl) ?_
  repeat (go_big_quiet_step (first
   | (go_at_call 230;first | (with_reducible exact Calls.regrown_of (JV a _ HA.o)) | (with_reducible exact Calls.regrown_of (JV b _ HB.o)))))
  refine wpQuiet_nil ?_;intro w5 hw5;obtain⟨q,hq⟩:=hw5;have hb5:=below_regrown ((w.alloc (.cells (Zc a) 69)).alloc (.cells (Zc b) 69)) q.d q.os;rw[<- show w5=_ from hq] at hb5;clear hq;have A5:=qh (J6 HX.o.1 hb5 (by simp;omega));have B5:=qh (J6 HX.o.2 hb5 (by simp));have G5:=qh (zk.alloc zj _ |>.alloc (by go_size) _ |>.trans (hb5.mono (by go_size)):Below w.heap.size w w5);clear hb5 es a0 a1 a2 a3 b0 b1 b2 b3 HX;go_wp2;go_ret;exact⟨by rw[E.o,E2.o];rfl,G5.o⟩
theorem je9 (a b:Nat->Int) (h:JU a=JU b) (w:World) (ha:Small a) (hb:Small b) :
  Calls Tryz.prog 151 #[.int .u8 1,mvf a,mvf b] w fun e w'=>e=.returned (.int .i64 (Zd 1 a b))/\Below w.heap.size w w':=by
 have HA:=qh ha;clear ha;have HB:=qh hb;clear hb;have HX:=qh (boxes w 69 a b);have T:=qh (show Zd 1 a b=Xx a b by rw[Zw (fun _=>h)];rfl);obtain⟨a0,a1,a2,a3⟩:=YM HX.o.1;obtain⟨b0,b1,b2,b3⟩:=YM HX.o.2;have es:=IntWalk.i64_in (JU a-JU b) (by have:=HA.o 0 (by omega);have:=HA.o 1 (by omega);have:=HA.o 2 (by omega);have:=HA.o 3 (by omega);have:=HB.o 0 (by omega);have:=HB.o 1 (by omega);have:=HB.o 2 (by omega);have:=HB.o 3 (by omega);unfold JU;omega)
 have hz:(JU a-JU b != 0)=false:=by simp;omega
 clear h;go_enter Tryz.func151,Tryz.ntmps151;go_wp2_with fail
 refine wp_region_quiet_below (by kernel_rfl) (by kernel_rfl) ?_
 repeat (go_big_quiet_step (first
  | (go_at_call 230;first | (with_reducible exact Calls.regrown_of (JV a _ HA.o)) | (with_reducible exact Calls.regrown_of (JV b _ HB.o)))))
 refine wpQuiet_nil ?_;intro w5 hw5;obtain⟨q,hq⟩:=hw5;have hb5:=below_regrown ((w.alloc (.cells (Zc a) 69)).alloc (.cells (Zc b) 69)) q.d q.os;rw[<- show w5=_ from hq] at hb5;clear hq;have A5:=qh (J6 HX.o.1 hb5 (by simp;omega));have B5:=qh (J6 HX.o.2 hb5 (by simp));have G5:=qh (zk.alloc zj _ |>.alloc (by go_size) _ |>.trans (hb5.mono (by go_size)):Below w.heap.size w w5);clear hb5 es a0 a1 a2 a3 b0 b1 b2 b3 HX;go_wp2_with fail
 obtain⟨k0,hD⟩:=XU a b;have E:=qh ((T.o).trans (XV hD));have h4:=hD.1;have EQ:=qh hD.2.1;have NE:=qh hD.2.2;clear hD;go_loopw [9] (fun i wr=>∃ k:Nat,k<=k0/\i=.int .i64 k/\wr.rowIs w.heap.size 69 4 (cell a)/\wr.rowIs (w.heap.size+1) 69 4 (cell b)/\Below w.heap.size w wr) (fun i _=>4-(intOf i).toNat)
 case atStart=>exact⟨0,by omega,rfl,A5.o,B5.o,G5.o⟩
 case round =>
  obtain⟨k,hk,rfl,RA,RB,G⟩:=hrel;clear A5 B5 G5;have GH:=qh G;clear G;by_cases hlt:k<4
  ·have c1:=RA.cell hlt;have c2:=RB.cell hlt;have s1:=(HA.o k hlt);have s2:=(HB.o k hlt);have RAH:=qh RA;have RBH:=qh RB;clear RA RB;by_cases hlk:k<k0
   ·have hne:(a k != b k)=false:=by rw[EQ.o k hlk];simp
    go_wp2;go_quiet (fail);go_wp2;go_roundw
    case rel=>exact⟨k+1,by omega,by go_num,RAH.o.of_block rfl,RBH.o.of_block rfl,below_drewN GH.o _⟩
    case measure=>simp[intOf];omega
   ·obtain rfl:k=k0:=by omega
    have hne:(a k != b k)=true:=by have:=NE.o hlt;simpa using this
    have Z:=qh (show Zd 1 a b=JH (a k-b k) by rw[E.o,if_pos hlt,QQ]);have ea:=IntWalk.i64_in (a k) (by omega);have eb:=IntWalk.i64_in (b k) (by omega);have es:=IntWalk.i64_in (a k-b k) (by omega)
    rcases Int.lt_or_gt_of_ne (NE.o hlt) with h' | h'
    ·have E2:=qh (show JH (a k-b k) = -1 by unfold JH;rw[if_neg (by omega),if_pos (by omega)]);go_wp2;go_quiet (fail);go_wp2;go_quiet (fail);go_wp2;go_ret;exact⟨by rw[Z.o,E2.o];rfl,below_drewN (below_drewN GH.o _) _⟩
    ·have E2:=qh (show JH (a k-b k)=1 by unfold JH;rw[if_pos (by omega)]);go_wp2;go_quiet (fail);go_wp2;go_quiet (fail);go_wp2;go_ret;exact⟨by rw[Z.o,E2.o];rfl,below_drewN (below_drewN GH.o _) _⟩
  ·have Z:=qh (show Zd 1 a b=0 by rw[E.o,if_neg (by omega)])
   obtain rfl:k=4:=by omega
   go_wp2;go_ret;exact⟨by rw[Z.o];rfl,GH.o⟩
theorem rcmp_fwd (a b:Nat->Int) (o:Int) (h1:(o==1)=false) (h2:(o==2)=false) (w:World) (ha:Small a) (hb:Small b) :
  Calls Tryz.prog 151 #[.int .u8 o,mvf a,mvf b] w fun e w'=>e=.returned (.int .i64 (Zd o a b))/\Below w.heap.size w w':=by
 have HA:=qh ha;clear ha;have HB:=qh hb;clear hb;have HX:=qh (boxes w 69 a b);have T:=qh (show Zd o a b=Xx a b by rw[Zw (fun hh=>absurd hh (by simp at h1 h2;omega))];unfold tailM;rw[if_neg (by simpa using h2)]);go_enter Tryz.func151,Tryz.ntmps151;go_wp2_with fail
 have A5:=qh HX.o.1;have B5:=qh HX.o.2;have G5:=qh (zk.alloc zj _ |>.alloc (by go_size) _:Below w.heap.size w ((w.alloc (.cells (Zc a) 69)).alloc (.cells (Zc b) 69)));clear HX;obtain⟨k0,hD⟩:=XU a b;have E:=qh ((T.o).trans (XV hD));have h4:=hD.1;have EQ:=qh hD.2.1;have NE:=qh hD.2.2;clear hD;go_loopw [9] (fun i wr=>∃ k:Nat,k<=k0/\i=.int .i64 k/\wr.rowIs w.heap.size 69 4 (cell a)/\wr.rowIs (w.heap.size+1) 69 4 (cell b)/\Below w.heap.size w wr) (fun i _=>4-(intOf i).toNat)
 case atStart=>exact⟨0,by omega,rfl,A5.o,B5.o,G5.o⟩
 case round =>
  obtain⟨k,hk,rfl,RA,RB,G⟩:=hrel;clear A5 B5 G5;have GH:=qh G;clear G;by_cases hlt:k<4
  ·have c1:=RA.cell hlt;have c2:=RB.cell hlt;have s1:=(HA.o k hlt);have s2:=(HB.o k hlt);have RAH:=qh RA;have RBH:=qh RB;clear RA RB;by_cases hlk:k<k0
   ·have hne:(a k != b k)=false:=by rw[EQ.o k hlk];simp
    go_wp2;go_quiet (fail);go_wp2;go_roundw
    case rel=>exact⟨k+1,by omega,by go_num,RAH.o.of_block rfl,RBH.o.of_block rfl,below_drewN GH.o _⟩
    case measure=>simp[intOf];omega
   ·obtain rfl:k=k0:=by omega
    have hne:(a k != b k)=true:=by have:=NE.o hlt;simpa using this
    have Z:=qh (show Zd o a b=JH (a k-b k) by rw[E.o,if_pos hlt,QQ]);have ea:=IntWalk.i64_in (a k) (by omega);have eb:=IntWalk.i64_in (b k) (by omega);have es:=IntWalk.i64_in (a k-b k) (by omega)
    rcases Int.lt_or_gt_of_ne (NE.o hlt) with h' | h'
    ·have E2:=qh (show JH (a k-b k) = -1 by unfold JH;rw[if_neg (by omega),if_pos (by omega)]);go_wp2;go_quiet (fail);go_wp2;go_quiet (fail);go_wp2;go_ret;exact⟨by rw[Z.o,E2.o];rfl,below_drewN (below_drewN GH.o _) _⟩
    ·have E2:=qh (show JH (a k-b k)=1 by unfold JH;rw[if_pos (by omega)]);go_wp2;go_quiet (fail);go_wp2;go_quiet (fail);go_wp2;go_ret;exact⟨by rw[Z.o,E2.o];rfl,below_drewN (below_drewN GH.o _) _⟩
  ·have Z:=qh (show Zd o a b=0 by rw[E.o,if_neg (by omega)])
   obtain rfl:k=4:=by omega
   go_wp2;go_ret;exact⟨by rw[Z.o];rfl,GH.o⟩
theorem rcmp_bwd (a b:Nat->Int) (h:JU a=JU b) (w:World) (ha:Small a) (hb:Small b) :
  Calls Tryz.prog 151 #[.int .u8 2,mvf a,mvf b] w fun e w'=>e=.returned (.int .i64 (Zd 2 a b))/\Below w.heap.size w w':=by
 have HA:=qh ha;clear ha;have HB:=qh hb;clear hb;have HX:=qh (boxes w 69 a b);have T:=qh (show Zd 2 a b=Xx (Kt b) (Kt a) by rw[Zw (fun _=>h)];rfl);obtain⟨a0,a1,a2,a3⟩:=YM HX.o.1;obtain⟨b0,b1,b2,b3⟩:=YM HX.o.2;have es:=IntWalk.i64_in (JU a-JU b) (by have:=HA.o 0 (by omega);have:=HA.o 1 (by omega);have:=HA.o 2 (by omega);have:=HA.o 3 (by omega);have:=HB.o 0 (by omega);have:=HB.o 1 (by omega);have:=HB.o 2 (by omega);have:=HB.o 3 (by omega);unfold JU;omega)
 have hz:(JU a-JU b != 0)=false:=by simp;omega
 clear h;go_enter Tryz.func151,Tryz.ntmps151;go_wp2_with fail
 refine wp_region_quiet_below (by kernel_rfl) (by kernel_rfl) ?_
 repeat (go_big_quiet_step (first
  | (go_at_call 230;first | (with_reducible exact Calls.regrown_of (JV a _ HA.o)) | (with_reducible exact Calls.regrown_of (JV b _ HB.o)))))
 refine wpQuiet_nil ?_;intro w5 hw5;obtain⟨q,hq⟩:=hw5;have hb5:=below_regrown ((w.alloc (.cells (Zc a) 69)).alloc (.cells (Zc b) 69)) q.d q.os;rw[<- show w5=_ from hq] at hb5;clear hq;have A5:=qh (J6 HX.o.1 hb5 (by simp;omega));have B5:=qh (J6 HX.o.2 hb5 (by simp));have G5:=qh (zk.alloc zj _ |>.alloc (by go_size) _ |>.trans (hb5.mono (by go_size)):Below w.heap.size w w5);clear hb5 es a0 a1 a2 a3 b0 b1 b2 b3 HX;go_wp2_with fail
 obtain⟨k0,hD⟩:=XU (Kt b) (Kt a);have E:=qh ((T.o).trans (XV hD));have h4:=hD.1;have EQ:=qh hD.2.1;have NE:=qh hD.2.2;clear hD;go_loopw [8] (fun i wr=>∃ k:Nat,k<=k0/\i=.int .i64 (3-(k:Int))/\wr.rowIs w.heap.size 69 4 (cell a)/\wr.rowIs (w.heap.size+1) 69 4 (cell b)/\Below w.heap.size w wr) (fun i _=>(1+intOf i).toNat)
 case atStart=>exact⟨0,by omega,rfl,A5.o,B5.o,G5.o⟩
 case round =>
  obtain⟨k,hk,rfl,RA,RB,G⟩:=hrel;clear A5 B5 G5;have GH:=qh G;have RAH:=qh RA;have RBH:=qh RB;clear G RA RB
  have hcases:k=0\/k=1\/k=2\/k=3\/k=4:=by omega
  rcases hcases with rfl | rfl | rfl | rfl | rfl
  ·rw[show((3:Int)-((0:Nat):Int))=3 from rfl];have c1:=RAH.o.cell (i:=3) (by omega);have c2:=RBH.o.cell (i:=3) (by omega);have s1:=HA.o 3 (by omega);have s2:=HB.o 3 (by omega);by_cases hlk:0<k0
   ·have hne:(a 3 != b 3)=false:=by have e:b 3=a 3:=EQ.o 0 hlk;rw[e];simp
    go_wp2;go_quiet (fail);go_wp2;go_roundw
    case rel=>exact⟨1,by omega,by rfl,RAH.o.of_block rfl,RBH.o.of_block rfl,below_drewN GH.o _⟩
    case measure=>simp[intOf]
   ·obtain rfl:k0=0:=by omega
    have hnn:¬b 3=a 3:=NE.o (by omega)
    have hne:(a 3 != b 3)=true:=by simp;omega
    have Z:=qh (show Zd 2 a b=JH (b 3-a 3) by rw[E.o,if_pos (by omega),QQ];rfl);have ea:=IntWalk.i64_in (a 3) (by omega);have eb:=IntWalk.i64_in (b 3) (by omega);have es:=IntWalk.i64_in (b 3-a 3) (by omega)
    rcases Int.lt_or_gt_of_ne hnn with h' | h'
    ·have E2:=qh (show JH (b 3-a 3) = -1 by unfold JH;rw[if_neg (by omega),if_pos (by omega)]);clear hnn;go_wp2;go_quiet (fail);go_wp2;go_quiet (fail);go_wp2;go_ret;exact⟨by rw[Z.o,E2.o];rfl,below_drewN (below_drewN GH.o _) _⟩
    ·have E2:=qh (show JH (b 3-a 3)=1 by unfold JH;rw[if_pos (by omega)]);clear hnn;go_wp2;go_quiet (fail);go_wp2;go_quiet (fail);go_wp2;go_ret;exact⟨by rw[Z.o,E2.o];rfl,below_drewN (below_drewN GH.o _) _⟩
  ·rw[show((3:Int)-((1:Nat):Int))=2 from rfl];have c1:=RAH.o.cell (i:=2) (by omega);have c2:=RBH.o.cell (i:=2) (by omega);have s1:=HA.o 2 (by omega);have s2:=HB.o 2 (by omega);by_cases hlk:1<k0
   ·have hne:(a 2 != b 2)=false:=by have e:b 2=a 2:=EQ.o 1 hlk;rw[e];simp
    go_wp2;go_quiet (fail);go_wp2;go_roundw
    case rel=>exact⟨2,by omega,by rfl,RAH.o.of_block rfl,RBH.o.of_block rfl,below_drewN GH.o _⟩
    case measure=>simp[intOf]
   ·obtain rfl:k0=1:=by omega
    have hnn:¬b 2=a 2:=NE.o (by omega)
    have hne:(a 2 != b 2)=true:=by simp;omega
    have Z:=qh (show Zd 2 a b=JH (b 2-a 2) by rw[E.o,if_pos (by omega),QQ];rfl);have ea:=IntWalk.i64_in (a 2) (by omega);have eb:=IntWalk.i64_in (b 2) (by omega);have es:=IntWalk.i64_in (b 2-a 2) (by omega)
    rcases Int.lt_or_gt_of_ne hnn with h' | h'
    ·have E2:=qh (show JH (b 2-a 2) = -1 by unfold JH;rw[if_neg (by omega),if_pos (by omega)]);clear hnn;go_wp2;go_quiet (fail);go_wp2;go_quiet (fail);go_wp2;go_ret;exact⟨by rw[Z.o,E2.o];rfl,below_drewN (below_drewN GH.o _) _⟩
    ·have E2:=qh (show JH (b 2-a 2)=1 by unfold JH;rw[if_pos (by omega)]);clear hnn;go_wp2;go_quiet (fail);go_wp2;go_quiet (fail);go_wp2;go_ret;exact⟨by rw[Z.o,E2.o];rfl,below_drewN (below_drewN GH.o _) _⟩
  ·rw[show((3:Int)-((2:Nat):Int))=1 from rfl];have c1:=RAH.o.cell (i:=1) (by omega);have c2:=RBH.o.cell (i:=1) (by omega);have s1:=HA.o 1 (by omega);have s2:=HB.o 1 (by omega);by_cases hlk:2<k0
   ·have hne:(a 1 != b 1)=false:=by have e:b 1=a 1:=EQ.o 2 hlk;rw[e];simp
    go_wp2;go_quiet (fail);go_wp2;go_roundw
    case rel=>exact⟨3,by omega,by rfl,RAH.o.of_block rfl,RBH.o.of_block rfl,below_drewN GH.o _⟩
    case measure=>simp[intOf]
   ·obtain rfl:k0=2:=by omega
    have hnn:¬b 1=a 1:=NE.o (by omega)
    have hne:(a 1 != b 1)=true:=by simp;omega
    have Z:=qh (show Zd 2 a b=JH (b 1-a 1) by rw[E.o,if_pos (by omega),QQ];rfl);have ea:=IntWalk.i64_in (a 1) (by omega);have eb:=IntWalk.i64_in (b 1) (by omega);have es:=IntWalk.i64_in (b 1-a 1) (by omega)
    rcases Int.lt_or_gt_of_ne hnn with h' | h'
    ·have E2:=qh (show JH (b 1-a 1) = -1 by unfold JH;rw[if_neg (by omega),if_pos (by omega)]);clear hnn;go_wp2;go_quiet (fail);go_wp2;go_quiet (fail);go_wp2;go_ret;exact⟨by rw[Z.o,E2.o];rfl,below_drewN (below_drewN GH.o _) _⟩
    ·have E2:=qh (show JH (b 1-a 1)=1 by unfold JH;rw[if_pos (by omega)]);clear hnn;go_wp2;go_quiet (fail);go_wp2;go_quiet (fail);go_wp2;go_ret;exact⟨by rw[Z.o,E2.o];rfl,below_drewN (below_drewN GH.o _) _⟩
  ·rw[show((3:Int)-((3:Nat):Int))=0 from rfl];have c1:=RAH.o.cell (i:=0) (by omega);have c2:=RBH.o.cell (i:=0) (by omega);have s1:=HA.o 0 (by omega);have s2:=HB.o 0 (by omega);by_cases hlk:3<k0
   ·have hne:(a 0 != b 0)=false:=by have e:b 0=a 0:=EQ.o 3 hlk;rw[e];simp
    go_wp2;go_quiet (fail);go_wp2;go_roundw
    case rel=>exact⟨4,by omega,by rfl,RAH.o.of_block rfl,RBH.o.of_block rfl,below_drewN GH.o _⟩
    case measure=>simp[intOf]
   ·obtain rfl:k0=3:=by omega
    have hnn:¬b 0=a 0:=NE.o (by omega)
    have hne:(a 0 != b 0)=true:=by simp;omega
    have Z:=qh (show Zd 2 a b=JH (b 0-a 0) by rw[E.o,if_pos (by omega),QQ];rfl);have ea:=IntWalk.i64_in (a 0) (by omega);have eb:=IntWalk.i64_in (b 0) (by omega);have es:=IntWalk.i64_in (b 0-a 0) (by omega)
    rcases Int.lt_or_gt_of_ne hnn with h' | h'
    ·have E2:=qh (show JH (b 0-a 0) = -1 by unfold JH;rw[if_neg (by omega),if_pos (by omega)]);clear hnn;go_wp2;go_quiet (fail);go_wp2;go_quiet (fail);go_wp2;go_ret;exact⟨by rw[Z.o,E2.o];rfl,below_drewN (below_drewN GH.o _) _⟩
    ·have E2:=qh (show JH (b 0-a 0)=1 by unfold JH;rw[if_pos (by omega)]);clear hnn;go_wp2;go_quiet (fail);go_wp2;go_quiet (fail);go_wp2;go_ret;exact⟨by rw[Z.o,E2.o];rfl,below_drewN (below_drewN GH.o _) _⟩
  ·rw[show((3:Int)-((4:Nat):Int)) = -1 from rfl];have Z:=qh (show Zd 2 a b=0 by rw[E.o,if_neg (by omega)]);go_wp2;go_ret;exact⟨by rw[Z.o];rfl,GH.o⟩
theorem rcmp_any (o:Int) (a b:Nat->Int) (w:World) (ha:Small a) (hb:Small b) :
  Calls Tryz.prog 151 #[.int .u8 o,mvf a,mvf b] w fun e w'=>e=.returned (.int .i64 (Zd o a b))/\Below w.heap.size w w':=by
 by_cases h1:o=1
 ·subst h1;by_cases h:JU a=JU b
  ·exact je9 a b h w ha hb
  ·exact je7 a b h w ha hb
 ·by_cases h2:o=2
  ·subst h2;by_cases h:JU a=JU b
   ·exact rcmp_bwd a b h w ha hb
   ·exact je8 a b h w ha hb
  ·exact rcmp_fwd a b o (by simpa using h1) (by simpa using h2) w ha hb
end Mono
namespace Limb
open Go.RowKit Go.Sort
theorem Qt:(Tryz.prog.info? 160).map (fun i=>(i.zero,i.size,i.bytes))=some (some (.int .u32 0),1,4):=by kernel_rfl
def ucs (o:Nat->Int) (n:Nat):List Value:=(List.range n).map (uc o)
theorem Qd (o:Nat->Int) (n:Nat):(ucs o n).length=n:=by simp[ucs]
theorem ZJ (o:Nat->Int) (n i:Nat) (h:i<n):(ucs o n)[i]?=some (uc o i):=by simp[ucs,h]
theorem XX {o:Nat->Int} {n j:Nat} {u:Value} (h:(ucs o n)[j]?=some u):j<n/\u=uc o j:=by
 have hj:j<n:=by
  rcases Nat.lt_or_ge j n with h1 | h1
  ·exact h1
  ·rw[List.getElem?_eq_none (by rw[Qd];exact h1)] at h;cases h
 rw[ZJ o n j hj] at h;exact⟨hj,by cases h;rfl⟩
theorem Qz (o:Nat->Int) (n:Nat):ucs o (n+1)=ucs o n++[uc o n]:=by simp[ucs,List.range_succ]
theorem UR {o:Nat->Int} {n:Nat}:∀ u∈ucs o n,u.oneCell'=true:=by
 intro u hu;obtain⟨i,_,rfl⟩:=List.mem_map.1 hu;rfl
theorem Own.XE {w:World} {base:Nat} {v:Value} {n:Nat} {o:Nat->Int} (h:w.ownsRow base 160 1 v n (ucs o n)) (hr:∀ i,i<n->0<=o i/\o i<=4294967295) :
  ∃ a cap,v=.slice a n cap/\Own 160 w base a n cap o/\(a=none->cap=0):=by
 rcases h.2 with ⟨rfl,rfl⟩ | ⟨g,cap,cur,rfl,hb,hg,hnc,_,hsz,hx⟩
 ·exact⟨none,0,rfl,⟨zj,Or.inl ⟨rfl,rfl,rfl⟩,hr⟩,fun _=>rfl⟩
 ·refine⟨_,cap,rfl,⟨hnc,Or.inr ⟨g,cur,rfl,hb,hg,by omega,fun i hi=>?_⟩,hr⟩,fun h=>by cases h⟩;have h1:=ZJ o n i hi;rw[<- hx,List.getElem?_take,if_pos (by omega),Array.getElem?_toList] at h1;exact h1
theorem Own.Zf (w:World) (base:Nat) (o:Nat->Int):w.ownsRow base 160 1 (.slice none 0 0) 0 (ucs o 0):=⟨rfl,Or.inl ⟨rfl,rfl⟩⟩
theorem q22 (w:World) (a:Option Addr) (n c n' c':Nat):(binOp .eql 24 (.slice a n c) (.slice none n' c')).run Tryz.prog w=.ok (.bool a.isNone) w:=Lib.run_eql_slice_nil w _ _ a n c n' c' Tryz.underlying24
theorem Xj (a:Option Addr) (n cap:Nat) (o:Nat->Int) (w:World) (h:Rd w a n o) (hn:n<=1000000000) :
  Calls Tryz.prog 215 #[.slice a n cap] w fun e w'=>∃ a' cap',e=.returned (.slice a' n cap')/\Own 160 w' w.heap.size a' n cap' o/\(a'=none->cap'=0)/\Below w.heap.size w w':=by
 have q:=q22
 cases a with
 | none =>
  obtain rfl:n=0:=by
   rcases Nat.eq_zero_or_pos n with h0 | h0
   ·exact h0
   ·obtain⟨b,off,e,_⟩:=h.cells h0;cases e
  clear h;go_enter Tryz.func215,Tryz.ntmps215;go_wp2;go_ret
  exact⟨none,0,rfl,⟨zj,Or.inl ⟨rfl,rfl,rfl⟩,fun i hi=>by omega⟩,fun _=>rfl,zk⟩
 | some p =>
  obtain⟨b,off,pt⟩:=p;obtain⟨i0,hi,hz0,hz1,hz2⟩:=info_parts Qt;have u22:∀ w,Sem.run Tryz.prog (underlying 24) w=.ok (TypeDesc.slice 160) w:=run_underlying Tryz.underlying24;have HC:=qh h;clear h;go_enter Tryz.func215,Tryz.ntmps215;go_wp2_with (at_builtin;refine wpList_append_own _ rfl _ _ 24 rfl w.heap.size 160 i0 (.int .u32 0) 1 4 Tryz.underlying24 hi hz0 hz1 hz2 rfl (by decide) _ _ _ rfl (World.ownsRow_made w #[] 0 zj (Nat.zero_le _) rfl) ⟨b,off,pt⟩ n cap (ucs o n) rfl ?qc1 ?qc2 ?qc3 ?qc4 ?qc5 ?qc6 ?_)
  case qc1=>rw[Qd];omega
  case qc2 =>
   intro j u hj;obtain⟨hjn,rfl⟩:=XX hj;obtain⟨b',off',e,hc⟩:=HC.o.cells (by omega)
   cases e
   rw[Addr.add_lit];exact Lib.cell?_alloc_some _ (hc j hjn)
  case qc3=>exact UR
  case qc4=>unfold maxLen;omega
  case qc5=>omega
  case qc6=>simp
  intro v' w1 hown hgrow hnil
  have hown:w1.ownsRow w.heap.size 160 1 v' n (ucs o n):=by simpa using hown
  obtain⟨a',cap',rfl,hO,hN⟩:=Own.XE hown HC.o.rng;have hg2:=((Below.refl _ w).alloc zj _).grown hgrow (by simp) (by intro k hk;simp[Value.ownBlock] at hk;omega);clear hown hgrow hnil;go_wp2;go_ret;exact⟨a',cap',rfl,hO,hN,hg2⟩
theorem Own.QJ {w:World} {g base n:Nat} {o:Nat->Int} (h:w.rowIs g 160 n (uc o)) (hb:base<=g) (hr:∀ i,i<n->0<=o i/\o i<=4294967295):Own 160 w base (some ⟨g,0,none⟩) n n o:=by
 obtain⟨c,hg,hn,hc⟩:=h;exact⟨zj,Or.inr ⟨g,c,rfl,hb,hg,by omega,hc⟩,hr⟩
def upto (o:Nat->Int) (k i:Nat):Value:=if i<k then uc o i else .int .u32 0
theorem row_step {w:World} {g n k:Nat} {o:Nat->Int} (h:w.rowIs g 160 n (upto o k)):(w.setCell ⟨g,k,none⟩ (uc o k)).rowIs g 160 n (upto o (k+1)) :=
 (h.set k (uc o k)).congr fun i hi=>by
  unfold upto;by_cases e:i=k
  ·subst e;rw[if_pos rfl,if_pos (by omega)]
  ·rw[if_neg e];by_cases e2:i<k
   ·rw[if_pos e2,if_pos (by omega)]
   ·rw[if_neg e2,if_neg (by omega)]
theorem jcq (x:Int):∃ Q R:Int,x.tdiv 1000000000=Q/\x.tmod 1000000000=R/\x=1000000000*Q+R/\((0<=x/\0<=R/\R<1000000000)\/(x<0/\-1000000000<R/\R<=0)):=by
 rcases Int.lt_or_le x 0 with h | h
 ·obtain⟨y,rfl⟩:∃ y,x = -y:=⟨-x,by omega⟩;refine⟨_,_,rfl,rfl,?_,Or.inr ⟨h,?_,?_⟩⟩
  ·rw[Int.neg_tdiv,Int.neg_tmod,Int.tdiv_eq_ediv_of_nonneg (by omega),Int.tmod_eq_emod_of_nonneg (by omega)];omega
  ·rw[Int.neg_tmod,Int.tmod_eq_emod_of_nonneg (by omega)];omega
  ·rw[Int.neg_tmod,Int.tmod_eq_emod_of_nonneg (by omega)];omega
 ·refine⟨_,_,rfl,rfl,?_,Or.inl ⟨h,?_,?_⟩⟩
  ·rw[Int.tdiv_eq_ediv_of_nonneg h,Int.tmod_eq_emod_of_nonneg h];omega
  ·rw[Int.tmod_eq_emod_of_nonneg h];omega
  ·rw[Int.tmod_eq_emod_of_nonneg h];omega
theorem jcr (f:Nat->Int) (k:Nat):∃ Q R:Int,(f k+cS f k).tdiv 1000000000=Q/\(f k+cS f k).tmod 1000000000=R/\-1000000000<R/\R<1000000000 /\
  (R<0->cS f (k+1)=Q-1/\cD f k=R+1000000000)/\(0<=R->cS f (k+1)=Q/\cD f k=R):=by
 obtain⟨Q,R,h1,h2,h3,h4⟩:=jcq (f k+cS f k);refine⟨Q,R,h1,h2,by omega,by omega,fun h=>?_,fun h=>?_⟩
 ·unfold cD;rw[cS];omega
 ·unfold cD;rw[cS];omega
theorem Zx (G:Nat) (cs:Array Value) (n:Nat) (f:Nat->Int) (lo hi:Int) (w:World) (hn:n<=1000000000)
  (hcf:∀ (args:Array Value) (w:World),(callFunc G args).run Tryz.prog w=.ok (.enter G args) w)
  (hF:∀ k,k<n->∀ w1,Below w.heap.size w w1->Calls Tryz.prog G (#[.int .i64 k]++cs) w1 fun e w'=>e=.returned (.int .i64 (f k))/\Below w1.heap.size w1 w')
  (hf:∀ k,k<n->lo*999999999<=f k/\f k<=hi*999999999) (hl:-2000000000<=lo) (hl0:lo<=0) (hh:hi<=2000000000) (hh0:0<=hi) :
  Calls Tryz.prog 247 #[.int .i64 n,.func (.func G) #[] cs] w fun e w'=>e=.returned (.slice (some ⟨w.heap.size,0,none⟩) n n)/\Own 160 w' w.heap.size (some ⟨w.heap.size,0,none⟩) n n (cD f)/\Below w.heap.size w w':=by
 have HF:=qh hF;clear hF;have HB:=qh hf;clear hf;have hmk:=run_make_row' (P:=Tryz.prog) 24 160 (.int .u32 0) 4 Tryz.underlying24 Qt rfl .i64 .i64 n (by omega) (by omega);go_enter Tryz.func247,Tryz.ntmps247;go_wp2;go_loopw [6,13] (fun on i wr=>∃ k:Nat,k<=n/\on=.int .i64 (cS f k)/\i=.int .i64 k/\wr.rowIs w.heap.size 160 n (upto (cD f) k)/\Below w.heap.size w wr) (fun _ i _=>n-(intOf i).toNat)
 case atStart=>exact⟨0,by omega,rfl,rfl,(World.rowIs_made w (.int .u32 0) n 160).congr (fun i _=>by unfold upto;rw[if_neg (by omega)]),qg⟩
 case round =>
  obtain⟨k,hk,rfl,rfl,R,hb⟩:=hrel;have HR:=qh R;have HW:=qh hb;clear R hb;by_cases hkn:k<n
  ·obtain⟨Q,M,e1,e2,h3,h4,h5,h6⟩:=jcr f k;have b1:=HB.o k hkn
   have b2:=cS_bd hl0 hh0 (n:=k) fun i hi=>HB.o i (by omega)
   have b3:=cS_bd hl0 hh0 (n:=k+1) fun i hi=>HB.o i (by omega)
   have C1:=HF.o k hkn wr HW.o;clear hmk;go_wp2_with fail
   refine C1.mono ?_;rintro e w2 ⟨rfl,hb2⟩;have R2:=qh (HR.o.of_block (hb2.block _ HR.o.lt));have W2:=qh (HW.o.trans (hb2.mono HW.o.size));obtain⟨vo,hco⟩:∃ v,w2.cell? ⟨w.heap.size,k,none⟩=some v:=⟨_,R2.o.cell hkn⟩;have hfz:=R2.o.frozen k;have ea:=IntWalk.i64_in (f k+cS f k) (by omega);clear hb2 C1 HR HW;by_cases hM:M<0
   ·obtain⟨h7,h8⟩:=h5 hM;rw[h7] at b3;have H7:=qh h7;have H8:=qh h8;have eu:=IntWalk.u32_in (M+1000000000) (by omega);clear h5 h6 h7 h8 b1 b2;go_wp2;go_roundw
    case rel=>exact⟨k+1,by omega,by rw[H7.o],by go_num,by have h:=row_step R2.o;rw[show uc (cD f) k=.int .u32 (M+1000000000) by show Value.int .u32 (cD f k)=_;rw[H8.o]] at h;exact h,by have:=W2.o;exact qg⟩
    case measure=>simp[intOf];omega
   ·obtain⟨h7,h8⟩:=h6 (by omega);rw[h7] at b3;have H7:=qh h7;have H8:=qh h8;have eu:=IntWalk.u32_in M (by omega);clear h5 h6 h7 h8 b1 b2;go_wp2;go_roundw
    case rel=>exact⟨k+1,by omega,by rw[H7.o],by go_num,by have h:=row_step R2.o;rw[show uc (cD f) k=.int .u32 M by show Value.int .u32 (cD f k)=_;rw[H8.o]] at h;exact h,by have:=W2.o;exact qg⟩
    case measure=>simp[intOf];omega
  ·obtain rfl:k=n:=by omega
   clear hmk;go_wp2;go_ret;exact⟨rfl,Own.QJ (HR.o.congr fun i hi=>by unfold upto;rw[if_pos hi]) zj (fun i hi=>by have:=Ql f k i hi;omega),HW.o⟩
end Limb
namespace Mono
theorem JO {x y:Int} (h:x<y):JB x y = -1:=by unfold JB;rw[if_pos h]
theorem JR {x y:Int} (h:y<x):JB x y=1:=by unfold JB;rw[if_neg (by omega),if_pos h]
theorem J4 {x y:Int} (h:x=y):JB x y=0:=by unfold JB;rw[if_neg (by omega),if_neg (by omega)]
theorem J7 {x y u v:Int} (h1:x<y↔u<v) (h2:y<x↔v<u):JB x y=JB u v:=by
 rcases Int.lt_trichotomy x y with h | h | h
 ·rw[JO h,JO (h1.1 h)]
 ·rw[J4 h,J4 (by have a1:=mt h1.2 (by omega);have a2:=mt h2.2 (by omega);omega)]
 ·rw[JR h,JR (h2.1 h)]
def key (a:Nat->Int):Int:=a 0*281474976710656+a 1*4294967296+a 2*65536+a 3
def rkey (a:Nat->Int):Int:=a 3*281474976710656+a 2*4294967296+a 1*65536+a 0
def KO (o:Int) (a:Nat->Int):Int:=if o=1 then JU a*18446744073709551616+key a else if o=2 then JU a*18446744073709551616-rkey a else key a
structure Bds (a:Nat->Int):Prop where
 b0:0<=a 0/\a 0<=65535
 b1:0<=a 1/\a 1<=65535
 b2:0<=a 2/\a 2<=65535
 b3:0<=a 3/\a 3<=65535
theorem bds {a:Nat->Int} (h:Small a):Bds a:=⟨h 0 (by omega),h 1 (by omega),h 2 (by omega),h 3 (by omega)⟩
theorem key_bd {a:Nat->Int} (h:Small a):0<=key a/\key a<18446744073709551616:=by
 obtain⟨h0,h1,h2,h3⟩:=bds h;unfold key;omega
theorem jd7 {a:Nat->Int} (h:Small a):0<=rkey a/\rkey a<18446744073709551616:=by
 obtain⟨h0,h1,h2,h3⟩:=bds h;unfold rkey;omega
theorem UT {a b:Nat->Int} (ha:Small a) (hb:Small b):Xx a b=JB (key a) (key b):=by
 obtain⟨k,hD⟩:=XU a b;rw[XV hD];obtain⟨h1,h2,h3⟩:=hD;obtain⟨p0,p1,p2,p3⟩:=bds ha;obtain⟨q0,q1,q2,q3⟩:=bds hb
 match k,h1 with
 | 0,_=>rw[if_pos (by omega)];exact J7 (by unfold key;omega) (by unfold key;omega)
 | 1,_=>rw[if_pos (by omega)];have e0:=h2 0 (by omega);exact J7 (by unfold key;omega) (by unfold key;omega)
 | 2,_=>rw[if_pos (by omega)];have e0:=h2 0 (by omega);have e1:=h2 1 (by omega);exact J7 (by unfold key;omega) (by unfold key;omega)
 | 3,_=>rw[if_pos (by omega)];have e0:=h2 0 (by omega);have e1:=h2 1 (by omega);have e2:=h2 2 (by omega);exact J7 (by unfold key;omega) (by unfold key;omega)
 | 4,_=>rw[if_neg (by omega)];have e0:=h2 0 (by omega);have e1:=h2 1 (by omega);have e2:=h2 2 (by omega);have e3:=h2 3 (by omega);exact(J4 (by unfold key;omega)).symm
theorem VW {a:Nat->Int} (h:Small a):Small (Kt a):=fun k hk=>h (3-k) (by omega)
theorem jd8 (a:Nat->Int):key (Kt a)=rkey a:=rfl
theorem cmp_key {o:Int} {a b:Nat->Int} (ha:Small a) (hb:Small b):Zd o a b=JB (KO o a) (KO o b):=by
 have k1:=key_bd ha;have k2:=key_bd hb;have r1:=jd7 ha;have r2:=jd7 hb;by_cases hd:(o=1\/o=2)/\¬JU a=JU b
 ·rw[Vi hd.1 hd.2,QQ];obtain⟨ho,hne⟩:=hd;unfold KO
  rcases ho with rfl | rfl
  ·rw[if_pos rfl,if_pos rfl];exact J7 (by omega) (by omega)
  ·rw[if_neg (by omega),if_pos rfl,if_neg (by omega),if_pos rfl];exact J7 (by omega) (by omega)
 ·have hq:(o=1\/o=2)->JU a=JU b:=fun h=>Decidable.byContradiction fun hn=>hd ⟨h,hn⟩
  rw[Zw hq];unfold tailM KO;by_cases h1:o=1
  ·have e:=hq (Or.inl h1);rw[if_neg (show ¬o=2 by omega),if_pos h1,if_pos h1,UT ha hb];exact J7 (by omega) (by omega)
  ·by_cases h2:o=2
   ·have e:=hq (Or.inr h2);rw[if_pos h2,if_neg h1,if_neg h1,if_pos h2,if_pos h2,UT (VW hb) (VW ha),jd8,jd8];exact J7 (by omega) (by omega)
   ·rw[if_neg h2,if_neg h1,if_neg h1,if_neg h2,if_neg h2,UT ha hb]
end Mono
namespace Limb
open Go.RowKit Go.Sort Go.Fresh
theorem cf_add (args:Array Value) (w:World):(callFunc 248 args).run Tryz.prog w=.ok (.enter 248 args) w:=by kernel_rfl
theorem add_plain (zp zq sg:Int) (h:zq.natAbs<=zp.natAbs) (hsg:sg=if decide (zp<0)=decide (zq<0) then 1 else -1) :
  0<=(zp.natAbs:Int)+sg*(zq.natAbs:Int)/\((zp.natAbs:Int)+sg*(zq.natAbs:Int)).toNat=(zp+zq).natAbs /\
  (decide (zp<0)&&decide (0<Ja (zp+zq).natAbs))=decide (zp+zq<0):=by
 have e0:0<Ja (zp+zq).natAbs↔zp+zq≠0:=by
  constructor
  ·intro h1 h2;rw[h2,show Int.natAbs 0=0 from rfl,JD] at h1;omega
  ·intro h1
   rcases Nat.eq_zero_or_pos (Ja (zp+zq).natAbs) with h2 | h2
   ·have:=Qj.1 h2;omega
   ·exact h2
 by_cases h1:zp<0 <;> by_cases h2:zq<0 <;> simp only[h1,h2,decide_true,decide_false,if_true,reduceCtorEq,if_false] at hsg <;> subst hsg <;>
  refine⟨by omega,by omega,?_⟩ <;> simp only[h1,decide_true,decide_false,Bool.true_and,Bool.false_and]
 ·exact decide_eq_decide.2 (e0.trans (by omega))
 ·exact decide_eq_decide.2 (e0.trans (by omega))
 ·exact(zo (by omega)).symm
 ·exact(zo (by omega)).symm
def addF (x nx y ny:Nat) (sg:Int) (i:Nat):Int:=part (dgi x) nx i+sg*part (dgi y) ny i
theorem Kg (x n i:Nat):0<=part (dgi x) n i/\part (dgi x) n i<=999999999:=by
 unfold part;split
 ·have:=Js x (i+1) i (by omega);omega
 ·omega
theorem addF_bd (x nx y ny:Nat) (sg:Int) (hsg:sg=1\/sg = -1) (i:Nat):-1*999999999<=addF x nx y ny sg i/\addF x nx y ny sg i<=2*999999999:=by
 have h1:=Kg x nx i;have h2:=Kg y ny i;unfold addF
 rcases hsg with rfl | rfl <;> omega
theorem addF_sum (x y:Nat) (sg:Int) (h:Ja y<=Ja x+1):Jh (addF x (Ja x) y (Ja y) sg) (Ja x+1)=x+sg*y:=by
 have e:addF x (Ja x) y (Ja y) sg=fun i=>part (dgi x) (Ja x) i+part (dgi y) (Ja y) i*sg:=by funext i;unfold addF;rw[Int.mul_comm]
 rw[e,XQ,Xl,QA _ (by omega),QA _ h,Jz,Jz,Int.mul_comm]
theorem add_lt (x y:Nat) (sg:Int) (hsg:sg=1\/sg = -1) (h:y<=x):(x:Int)+sg*y<(pw (Ja x+1):Int):=by
 have h1:=JG x;rw[JN]
 rcases hsg with rfl | rfl <;> omega
theorem ZK {P:Program} {f:FuncId} {args:Array Value} {w:World} {n:Nat} {v:Value}
  (h:Calls P f args (w.drewN n) fun e w'=>e=.returned v/\w'=w.drewN n):Calls P f args (w.drewN n) fun e w''=>e=.returned v/\∃ m,w''=w.drewN m :=
 h.mono fun _ _ ⟨he,hm⟩=>⟨he,n,hm⟩
theorem addFn (w:World) (b1 b2 b3:Nat) (s1 s2:Value) (T:TypeId) (p q:Option Addr) (f g:Nat->Int) (nx ny d e:Nat) (sg:Int) (k:Nat)
  (B1:Bx w b1 T s1 (.slice p nx d)) (B2:Bx w b2 T s2 (.slice q ny e)) (h3:w.cell? ⟨b3,0,none⟩=some (.int .i64 sg)) (hp:Rd w p nx f) (hq:Rd w q ny g)
  (hx:nx<=1000000000) (hy:ny<=1000000000) (hk:k<=1000000000) (hsg:sg=1\/sg = -1) (r1:0<=part f nx k/\part f nx k<=999999999) (r2:0<=part g ny k/\part g ny k<=999999999) :
  Calls Tryz.prog 248 #[.int .i64 k,.pointer (some ⟨b1,0,none⟩),.pointer (some ⟨b3,0,none⟩),.pointer (some ⟨b2,0,none⟩)] w fun e w'=>e=.returned (.int .i64 (part f nx k+sg*part g ny k))/\Below w.heap.size w w':=by
 have P:=qh (fun (w1:World) (h:∃ m,w1=w.drewN m)=>Kb p nx d f k w1 (by obtain⟨m,rfl⟩:=h;exact hp.drewN m) hx hk);have Q:=qh (fun (w1:World) (h:∃ m,w1=w.drewN m)=>Kb q ny e g k w1 (by obtain⟨m,rfl⟩:=h;exact hq.drewN m) hy hk);have e1:=IntWalk.i64_in (sg*part g ny k) (by rcases hsg with rfl | rfl <;> omega);have e2:=IntWalk.i64_in (part f nx k+sg*part g ny k) (by rcases hsg with rfl | rfl <;> omega)
 generalize part f nx k=u at *
 generalize part g ny k=v at *
 have c1:=B1.c1;have c2:=B2.c1;clear B1 B2 hp hq;go_enter Tryz.func248,Tryz.ntmps248;go_wp2_with fail
 go_quiet (first | with_reducible exact ZK (P.o _ ⟨_,rfl⟩) | with_reducible exact ZK (Q.o _ ⟨_,rfl⟩));go_wp2;go_ret;exact⟨rfl,Qh zk _⟩
theorem Own.cut {T:Nat} {w:World} {base:Nat} {a:Option Addr} {n cap L:Nat} {o o':Nat->Int} (h:Own T w base a n cap o) (hL:L<=n) (e:∀ i,i<L->o i=o' i):Own T w base a L L o':=by
 refine⟨zj,?_,fun i hi=>by rw[<- e i hi];exact h.rng i (by omega)⟩
 rcases h.place with ⟨e0,h0,h1⟩ | ⟨g,cur,ha,hbg,hg,hcap,hc⟩
 ·exact Or.inl ⟨e0,by omega,by omega⟩
 ·exact Or.inr ⟨g,cur,ha,hbg,hg,by have:=h.le;omega,fun i hi=>by rw[hc i (by omega)];show some (Value.int .u32 (o i))=_;rw[e i hi]⟩
theorem Own.other {T:Nat} {w:World} {base:Nat} {a:Option Addr} {n cap:Nat} {o:Nat->Int} (h:Own T w base a n cap o) {p:Addr} (hp:p.block<base) (v:Value):Own T (w.setCell p v) base a n cap o:=by
 refine⟨h.le,?_,h.rng⟩
 rcases h.place with h0 | ⟨g,cur,ha,hbg,hg,hcap,hc⟩
 ·exact Or.inl h0
 ·exact Or.inr ⟨g,cur,ha,hbg,(Below.heap_setCell _ _ _ _ (by omega)).trans hg,hcap,hc⟩
theorem Own.oz {T:Nat} {w:World} {base:Nat} {a:Option Addr} {n cap:Nat} {o:Nat->Int} (h:Own T w base a n cap o) {p:Addr} {v:Value} (hp:p.block<base:=by dsimp only;omega):Own T (w.setCell p v) base a n cap o:=h.other hp v
theorem own_of {T g N b:Nat} {o:Nat->Int} {w:World} (h:∃ x:Nat,Value.slice (some ⟨g,0,none⟩) N N=.slice (some ⟨x,0,none⟩) N N/\Own T w b (some ⟨x,0,none⟩) N N o):Own T w b (some ⟨g,0,none⟩) N N o:=by
 obtain⟨x,e,h⟩:=h
 cases e
 exact h
theorem UU {T L b:Nat} {s:Bool} {a:Option Addr} {o:Nat->Int} {w:World} {p:Option Addr->Prop} (h:∃ x:Option Addr,Jy s a L L=Jy s x L L/\Own T w b x L L o/\p x):Own T w b a L L o/\p a:=by
 obtain⟨x,e,h⟩:=h
 cases e
 exact h
theorem add_any (s1:Bool) (a1:Option Addr) (n1 c1:Nat) (o1:Nat->Int) (s2:Bool) (a2:Option Addr) (n2 c2:Nat) (o2:Nat->Int) (w:World)
  (h1:Rd w a1 n1 o1) (hn1:n1<=100000000) (hc1:n1<=c1) (h2:Rd w a2 n2 o2) (hn2:n2<=100000000) (hc2:n2<=c2) :
  Calls Tryz.prog 208 #[Jy s1 a1 n1 c1,Jy s2 a2 n2 c2] w fun e w'=>∃ a,e=.returned (Jy (decide (Jq s1 n1 o1+Jq s2 n2 o2<0)) a (Ja (Jq s1 n1 o1+Jq s2 n2 o2).natAbs) (Ja (Jq s1 n1 o1+Jq s2 n2 o2).natAbs)) /\
   Own 160 w' w.heap.size a (Ja (Jq s1 n1 o1+Jq s2 n2 o2).natAbs) (Ja (Jq s1 n1 o1+Jq s2 n2 o2).natAbs) (dgi (Jq s1 n1 o1+Jq s2 n2 o2).natAbs)/\(a=none->Ja (Jq s1 n1 o1+Jq s2 n2 o2).natAbs=0)/\Below w.heap.size w w':=by
 obtain⟨x1,d1,r1,l1,m1,O1⟩:=XF s1 a1 n1 c1 o1 w h1 (by omega) hc1;obtain⟨x2,d2,r2,l2,m2,O2⟩:=XF s2 a2 n2 c2 o2 w h2 (by omega) hc2
 generalize Jq s1 n1 o1=z1 at r1 l1 m1 O1 ⊢
 have HO1:=qh O1;clear O1
 generalize Jq s2 n2 o2=z2 at r2 l2 m2 O2 ⊢
 have HO2:=qh O2;clear O2;have B1:=(((Bx.new w 26 (.bool s1) (.slice a1 n1 c1)).alloc (.cells #[.bool s2,.slice a2 n2 c2] 26)).alloc (.cells #[.bool false,.slice none 0 0] 26));have B2:=((Bx.X6 w (.cells #[.bool s1,.slice a1 n1 c1] 26) 26 (.bool s2) (.slice a2 n2 c2)).alloc (.cells #[.bool false,.slice none 0 0] 26));have B3:=(Bx.new3 w (.cells #[.bool s1,.slice a1 n1 c1] 26) (.cells #[.bool s2,.slice a2 n2 c2] 26) 26 (.bool false) (.slice none 0 0));go_enter Tryz.func208,Tryz.ntmps208
 go_upto_region 1 with (fail)
 obtain⟨W,hW⟩:∃ W,W=(((w.alloc (.cells #[.bool s1,.slice a1 n1 c1] 26)).alloc (.cells #[.bool s2,.slice a2 n2 c2] 26)).alloc (.cells #[.bool false,.slice none 0 0] 26)):=⟨_,rfl⟩;have G1:=qh ((zk.alloc (by go_size) _ |>.alloc (by go_size) _ |>.alloc (by go_size) _):Below w.heap.size w (((w.alloc (.cells #[.bool s1,.slice a1 n1 c1] 26)).alloc (.cells #[.bool s2,.slice a2 n2 c2] 26)).alloc (.cells #[.bool false,.slice none 0 0] 26)));rw[<- hW] at B1 B2 B3 G1;rw[show(((w.alloc (.cells #[.bool s1,.slice a1 n1 c1] 26)).alloc (.cells #[.bool s2,.slice a2 n2 c2] 26)).alloc (.cells #[.bool false,.slice none 0 0] 26))=W from hW.symm];clear hW
 go_cut [] (fun wx=>Bx wx w.heap.size 26 (.bool (decide (z1<0))) (.slice x1 (Ja z1.natAbs) d1)/\Bx wx (w.heap.size+1) 26 (.bool (decide (z2<0))) (.slice x2 (Ja z2.natAbs) d2) /\
  Bx wx (w.heap.size+1+1) 26 (.bool false) (.slice none 0 0)/\Below w.heap.size w wx)
 case first =>
  have HS1:=qh (fun (w':World) (hb:Below W.heap.size W w')=>And.intro (B1.below hb B1.lt).c0 (B1.below hb B1.lt).c1);have HS2:=qh (fun (w':World) (hb:Below W.heap.size W w')=>And.intro (B2.below hb B2.lt).c0 (B2.below hb B2.lt).c1);have HB1:=qh B1;have HB2:=qh B2;have HB3:=qh B3;clear B1 B2 B3
  refine Jc 4 (JM [(1,Sp.know (Jy (decide (z1<0)) x1 (Ja z1.natAbs) d1)),(3,Sp.know (Jy (decide (z2<0)) x2 (Ja z2.natAbs) d2))]) (fun w'=>Below W.heap.size W w') (by kernel_rfl) (by kernel_rfl)
   (Jd (Sp.Jm _) (Jd (Sp.Jm _) Jl)) (fun _ _ h hb=>h.trans (hb.mono h.size)) (zk.drew) ?_
  simp only[zx,zy,zv,zw]
  (refine Jb rfl rfl ?_ (fun w' hw'=>?_) ?_;rotate_left;· (have hb':=Has.world hw';(have hs:=HS1.o _ hb');clear hw';go_simp;try rfl))
  (refine Jf rfl rfl (fun w' hw'=>?_) ?_;· (have hb':=Has.world hw';go_simp;((refine(HO1.o w' (G1.o.trans (hb'.mono G1.o.size))).mono ?_;rintro e w'' ⟨rfl,hb⟩;exact⟨_,rfl,rfl,hb⟩))))
  rintro _ rfl
  (refine Jb rfl rfl ?_ (fun w' hw'=>?_) ?_;rotate_left;· (have hb':=Has.world hw';(have hs:=HS2.o _ hb');clear hw';go_simp;try rfl))
  (refine Jf rfl rfl (fun w' hw'=>?_) ?_;· (have hb':=Has.world hw';go_simp;((refine(HO2.o w' (G1.o.trans (hb'.mono G1.o.size))).mono ?_;rintro e w'' ⟨rfl,hb⟩;exact⟨_,rfl,rfl,hb⟩))))
  rintro _ rfl;refine Jn (fun w1 hb1 hF=>?_);clear hF;have C1:=HB1.o.bl hb1;have C2:=HB2.o.bl hb1;have C3:=HB3.o.bl hb1;have G2:=G1.o.trans (hb1.mono G1.o.size);have K1:=qh C1;have K2:=qh C2;have K3:=qh C3;obtain⟨b10,b11,b12,b13⟩:=C1.all;obtain⟨b20,b21,b22,b23⟩:=C2.all;have KG:=qh G2;clear C1 C2 C3 hb1 HS1 HS2 G2;go_wp2_with fail
  go_meet
  case rel =>
   exact⟨((K1.o.set _ _).oz).oz,((K2.o.oz).oz).set _ _,(((K3.o.oz).oz).oz).oz,
    (((KG.o.setCell (by simp) _).setCell (by simp) _).setCell (by simp) _).setCell (by simp) _⟩
 case rest =>
  obtain⟨B1,B2,B3,G1⟩:=hcut;obtain⟨w1,rfl⟩:∃ w1,w1=wc:=⟨_,rfl⟩;have R1:=r1.below G1;have R2:=r2.below G1;have AM:=qh (Xc z1.natAbs z2.natAbs x1 x2 d1 d2 w1 R1 R2 (by omega) (by omega));have K1:=qh B1;have K2:=qh B2;have K3:=qh B3;have KG:=qh G1;have HR:=qh (And.intro r1 r2);obtain⟨b10,b11,b12,b13⟩:=B1.all;obtain⟨b20,b21,b22,b23⟩:=B2.all;clear B1 B2 B3 G1 R1 R2 r1 r2 h1 h2 HO1 HO2
  go_upto_if 15 with (first
   | (go_at_call 214;refine AM.o.mono ?_;rintro e w2 ⟨rfl,m,rfl⟩))
  go_cut [] (fun wx=>∃ (zp zq:Int) (xp xq:Option Addr) (dp dq:Nat),zp+zq=z1+z2/\zq.natAbs<=zp.natAbs/\Ja zp.natAbs<=100000000/\Rd w xp (Ja zp.natAbs) (dgi zp.natAbs)/\Rd w xq (Ja zq.natAbs) (dgi zq.natAbs) /\
   Bx wx w.heap.size 26 (.bool (decide (zp<0))) (.slice xp (Ja zp.natAbs) dp)/\Bx wx (w.heap.size+1) 26 (.bool (decide (zq<0))) (.slice xq (Ja zq.natAbs) dq) /\
   Bx wx (w.heap.size+1+1) 26 (.bool false) (.slice none 0 0)/\Below w.heap.size w wx)
  case first =>
   by_cases hlt:z1.natAbs<z2.natAbs
   ·rw[show JB (z1.natAbs:Int) (z2.natAbs:Int) = -1 from JO (by omega)];go_wp2_with fail
    go_meet
    case rel =>
     exact⟨z2,z1,x2,x1,d2,d1,by omega,by omega,by omega,HR.o.2,HR.o.1,
      ((K1.o.drewN m |>.set _ _).oz).oz,((K2.o.drewN m |>.oz).oz).set _ _,
      (((K3.o.drewN m |>.oz).oz).oz).oz,
      ((((Qh KG.o m).setCell (by simp) _).setCell (by simp) _).setCell (by simp) _).setCell (by simp) _⟩
   ·have hc:decide (JB (z1.natAbs:Int) (z2.natAbs:Int)<0)=false:=by
     refine zo ?_
     rcases Nat.lt_or_ge z2.natAbs z1.natAbs with h | h
     ·rw[JR (by omega)];omega
     ·rw[J4 (by omega)];omega
    rw[hc];clear hc;go_wp2_with fail
    go_meet
    case rel=>exact⟨z1,z2,x1,x2,d1,d2,by omega,by omega,by omega,HR.o.1,HR.o.2,K1.o.drewN m,K2.o.drewN m,K3.o.drewN m,Qh KG.o m⟩
  case rest =>
   obtain⟨zp,zq,xp,xq,dp,dq,ez,hle,hlp,rp,rq,B1,B2,B3,G1⟩:=hcut;obtain⟨w3,rfl⟩:∃ w3,w3=wc:=⟨_,rfl⟩;have K1:=qh B1;have K2:=qh B2;have K3:=qh B3;have KG:=qh G1;have HP:=qh rp;have HQ:=qh rq;have HE:=qh ez;have HL:=qh hle;have HLP:=qh hlp;have hsz:w.heap.size+1+1<w3.heap.size:=B3.lt;obtain⟨b10,b11,b12,b13⟩:=B1.all;obtain⟨b20,b21,b22,b23⟩:=B2.all
   obtain⟨sg,hsg⟩:∃ sg:Int,sg=if decide (zp<0)=decide (zq<0) then 1 else -1:=⟨_,rfl⟩
   have HS:=qh hsg;clear B1 B2 B3 G1 rp rq ez hle hlp HR AM hsg
   go_upto_if 22 with (fail)
   go_cut [] (fun wx=>Bx wx w.heap.size 26 (.bool (decide (zp<0))) (.slice xp (Ja zp.natAbs) dp)/\Bx wx (w.heap.size+1) 26 (.bool (decide (zq<0))) (.slice xq (Ja zq.natAbs) dq) /\
    Bx wx (w.heap.size+1+1) 26 (.bool false) (.slice none 0 0)/\wx.rowIs w3.heap.size 2 1 (fun _=>.int .i64 sg)/\Below w.heap.size w wx)
   case first =>
    by_cases hs:decide (zp<0)=decide (zq<0)
    ·have e0:(!(decide (zp<0)==decide (zq<0)))=false:=by rw[hs];simp
     have S:=qh (HS.o.trans (if_pos hs));rw[e0];clear e0 hs;go_wp2_with fail
     go_meet
     case rel =>
      exact⟨K1.o.alloc _,K2.o.alloc _,K3.o.alloc _,by
       have h:=World.rowIs_alloc w3 #[.int .i64 1] 2 (fun _=>.int .i64 sg) (fun i hi=>by
        match i,hi with
        | 0,_=>rw[S.o];rfl)
       exact h,KG.o.alloc KG.o.size _⟩
    ·have e0:(!(decide (zp<0)==decide (zq<0)))=true:=by simpa using hs
     have S:=qh (HS.o.trans (if_neg hs));rw[e0];clear e0 hs;go_wp2_with fail
     go_meet
     case rel =>
      exact⟨K1.o.alloc _,K2.o.alloc _,K3.o.alloc _,by
       have h:=World.rowIs_alloc w3 #[.int .i64 (-1)] 2 (fun _=>.int .i64 sg) (fun i hi=>by
        match i,hi with
        | 0,_=>rw[S.o];rfl)
       exact h,KG.o.alloc KG.o.size _⟩
   case rest =>
    obtain⟨B1,B2,B3,BS,G1⟩:=hcut;obtain⟨w4,rfl⟩:∃ w4,w4=wc:=⟨_,rfl⟩;have HB1:=qh B1;have HB2:=qh B2;have HB3:=qh B3;have HBS:=qh BS;have HG:=qh G1;clear K1 K2 K3 KG b10 b11 b12 b13 b20 b21 b22 b23 B1 B2 B3 BS G1;have hcf:=qh cf_add
    obtain⟨F,hF⟩:∃ F:Nat->Int,F=fun k=>part (dgi zp.natAbs) (Ja zp.natAbs) k+sg*part (dgi zq.natAbs) (Ja zq.natAbs) k:=⟨_,rfl⟩
    have hs1:sg=1\/sg = -1:=by rw[HS.o];split <;> simp
    have hlq:Ja zq.natAbs<=Ja zp.natAbs:=JQ HL.o;have hlp:Ja zp.natAbs<=100000000:=HLP.o
    have hsum:Jh F (Ja zp.natAbs+1)=(zp.natAbs:Int)+sg*(zq.natAbs:Int):=by rw[hF];exact addF_sum _ _ _ (by omega)
    obtain⟨p1,p2,p3⟩:=add_plain zp zq sg HL.o HS.o;have hcs:=ZG (f:=F) (n:=Ja zp.natAbs+1) (by rw[hsum];exact p1) (by rw[hsum];exact add_lt _ _ _ hs1 HL.o);have hcut:Jh (cD F) (Ja zp.natAbs+1)=(zp.natAbs:Int)+sg*(zq.natAbs:Int):=hcs.2.trans hsum;rw[HE.o] at p2 p3
    have CARRY:=qh (fun (w':World) (hb:Below w4.heap.size w4 w')=>Zx 248 #[.pointer (some ⟨w.heap.size,0,none⟩),.pointer (some ⟨w3.heap.size,0,none⟩),.pointer (some ⟨w.heap.size+1,0,none⟩)] (Ja zp.natAbs+1) F (-1) 2 w' (by omega) cf_add
     (fun k hk w1 hb1=>by
      have hbb:Below w4.heap.size w4 w1:=hb.trans (hb1.mono hb.size)
      have:=addFn w1 w.heap.size (w.heap.size+1) w3.heap.size _ _ _ xp xq (dgi zp.natAbs) (dgi zq.natAbs) (Ja zp.natAbs) (Ja zq.natAbs) dp dq sg k (HB1.o.bl hbb) (HB2.o.bl hbb)
       ((hbb.cell (p:=⟨w3.heap.size,0,none⟩) HBS.o.lt).trans (HBS.o.cell (i:=0) (by omega)))
       (HP.o.below (HG.o.trans (hbb.mono HG.o.size))) (HQ.o.below (HG.o.trans (hbb.mono HG.o.size))) (by omega) (by omega) (by omega) hs1 (Kg _ _ _) (Kg _ _ _)
      rw[hF]
      exact this) (fun k _=>by rw[hF];exact addF_bd _ _ _ _ _ hs1 k) (by omega) (by omega) (by omega) (by omega))
    have HF:=qh hF;clear hF;have HC:=qh hcut;clear hcut;have HS1:=qh (fun (w':World) (hb:Below w4.heap.size w4 w')=>And.intro (HB1.o.bl hb).c0 (HB1.o.bl hb).c1);have HP2:=qh p2;have HP3:=qh p3;clear hsum p1 p2 p3 hcs HE HS HL;obtain⟨N,hN⟩:∃ N,N=Ja zp.natAbs+1:=⟨_,rfl⟩;have HN:=qh hN;rw[<- hN] at CARRY HC
    have hNb:N<=100000001:=by omega
    have ew:IntKind.i64.wrap ((Ja zp.natAbs:Int)+1)=(N:Int):=by rw[IntWalk.i64_in _ (by omega)];omega
    have HD:=qh (show Ja (z1+z2).natAbs<=N/\∀ i,i<Ja (z1+z2).natAbs->cD F i=dgi (z1+z2).natAbs i by
     have h1:=JS (Ql F N);rw[HC.o,HP2.o] at h1;refine⟨h1,fun i hi=>?_⟩;have h2:=XH (Ql F N) i (by omega);rw[HC.o,HP2.o] at h2
     exact h2.symm)
    have CUT:=qh (fun (w':World) (g:Nat) (ho:Own 160 w' w4.heap.size (some ⟨g,0,none⟩) N N (cD F))=>XI (decide (zp<0)) (some ⟨g,0,none⟩) N N (cD F) w' ho.rd (Ql F N) (by omega) zj (fun h=>by cases h));rw[HC.o,HP2.o,HP3.o] at CUT;clear hN
    go_upto_region 7 with (fail)
    refine Jc 9 (JM [(7,Sp.made (fun g:Nat=>.slice (some ⟨g,0,none⟩) N N) (fun g w'=>Own 160 w' w4.heap.size (some ⟨g,0,none⟩) N N (cD F))),
      (8,Sp.made (fun a:Option Addr=>Jy (decide (z1+z2<0)) a (Ja (z1+z2).natAbs) (Ja (z1+z2).natAbs)) (fun a w'=>Own 160 w' w4.heap.size a (Ja (z1+z2).natAbs) (Ja (z1+z2).natAbs) (dgi (z1+z2).natAbs)/\(a=none->Ja (z1+z2).natAbs=0)))])
     (fun w'=>Below w4.heap.size w4 w') (by kernel_rfl) (by kernel_rfl)
     (Jd (Sp.Jg fun x w w' h hb=>h.below hb) (Jd (Sp.Jg fun x w w' h hb=>⟨h.1.below hb,h.2⟩) Jl)) (fun _ _ h hb=>h.trans (hb.mono h.size)) (zk.drew) ?_
    simp only[zx,zy,zv,zw]
    iterate 7
     (refine Jb rfl rfl ?_ (fun w' hw'=>?_) ?_;rotate_left;· (have hb':=Has.world hw';(have hs:=HS1.o _ hb');clear hw';go_simp;try rfl))
    (refine Jf rfl rfl (fun w' hw'=>?_) ?_;· (have hb':=Has.world hw';go_simp;((refine(CARRY.o w' hb').mono ?_;rintro e w'' ⟨rfl,ho,hb⟩;exact⟨_,rfl,⟨⟨_,rfl⟩,⟨_,rfl,ho.mono hb'.size⟩⟩,hb⟩))))
    rintro _ ⟨g,rfl⟩
    (refine Jf rfl rfl (fun w' hw'=>?_) ?_;· (have hb':=Has.world hw';go_simp;((have h7:=own_of (g:=g) (N:=N) (T:=160) (o:=cD F) (b:=w4.heap.size) (hw'.fact 7 (by kernel_rfl));refine(CUT.o w' g h7).mono ?_;rintro e w'' ⟨rfl,hb⟩;exact⟨_,rfl,⟨⟨_,rfl⟩,⟨_,rfl,(h7.below hb).cut HD.o.1 HD.o.2,fun h=>by cases h⟩⟩,hb⟩))))
    rintro _ ⟨a,rfl⟩;refine Jn (fun w5 hb5 hF5=>?_);have OA:=UU (T:=160) (b:=w4.heap.size) (s:=decide (z1+z2<0)) (L:=Ja (z1+z2).natAbs) (o:=dgi (z1+z2).natAbs) (a:=a) (p:=fun x=>x=none->Ja (z1+z2).natAbs=0) (hF5 8);have HO:=qh OA;have B3:=HB3.o.bl hb5;have HB5:=qh B3;obtain⟨b30,b31,b32,b33⟩:=B3.all;have HG5:=qh (HG.o.trans (hb5.mono HG.o.size));have hz4:=HB3.o.lt;have hz5:=HG.o.size;clear hF5 OA B3 hb5 HS1 CARRY CUT HD;go_wp2_with fail
    refine bodyPost_ret (Je rfl _ _ _ _ _ _ _ rfl (HB5.o.set _ _) Tryz.underlying26 rfl (by kernel_rfl)) rfl ⟨a,rfl,?_,HO.o.2,?_⟩
    ·exact((HO.o.1.oz).oz).mono hz5
    ·exact(HG5.o.sc).sc
def Yk (w:World) (z:Int) (e:Ending) (w':World):Prop :=
 ∃ a,e=.returned (Jy (decide (z<0)) a (Ja z.natAbs) (Ja z.natAbs))/\Own 160 w' w.heap.size a (Ja z.natAbs) (Ja z.natAbs) (dgi z.natAbs)/\(a=none->Ja z.natAbs=0)/\Below w.heap.size w w'
theorem UW (s1:Bool) (a1:Option Addr) (n1 c1:Nat) (o1:Nat->Int) (s2:Bool) (a2:Option Addr) (n2 c2:Nat) (o2:Nat->Int) (w:World)
  (h1:Rd w a1 n1 o1) (hn1:n1<=100000000) (hc1:n1<=c1) (h2:Rd w a2 n2 o2) (hn2:n2<=100000000) (hc2:n2<=c2) :
  Calls Tryz.prog 208 #[Jy s1 a1 n1 c1,Jy s2 a2 n2 c2] w (Yk w (Jq s1 n1 o1+Jq s2 n2 o2)):=add_any s1 a1 n1 c1 o1 s2 a2 n2 c2 o2 w h1 hn1 hc1 h2 hn2 hc2
theorem J9 (z:Int):okN (decide (z<0)) (Ja z.natAbs) (dgi z.natAbs):=by
 refine⟨fun i hi=>(Js _ _ i hi).2,fun h=>?_,fun h=>?_⟩
 ·have:=Qj.1 h;exact zo (by omega)
 ·have h1:=YI (m:=z.natAbs) (fun e=>by rw[e,JD] at h;omega);show((dg z.natAbs (Ja z.natAbs-1):Nat):Int)≠0;omega
theorem Jj (z:Int):Jq (decide (z<0)) (Ja z.natAbs) (dgi z.natAbs)=z:=by
 unfold Jq;rw[if_pos (J9 z),Jz];by_cases h:z<0
 ·rw[if_pos (decide_eq_true h)];omega
 ·rw[if_neg (by simpa using h)];omega
theorem jfa (z:Int) (s:Bool) (hs:s=decide (-z<0)):Jq s (Ja z.natAbs) (dgi z.natAbs) = -z:=by
 have h:=Jj (-z);rw[Int.natAbs_neg] at h;rw[hs];exact h
theorem VX {T L b:Nat} {x:Option Addr × Nat} {o:Nat->Int} {w:World} (h:∃ y:Option Addr × Nat,Value.slice x.1 L x.2=.slice y.1 L y.2/\Own T w b y.1 L y.2 o/\(y.1=none->y.2=0)):Own T w b x.1 L x.2 o/\(x.1=none->x.2=0):=by
 obtain⟨y,e,h⟩:=h;simp only[Value.slice.injEq] at e;rw[e.1,e.2.2];exact h
theorem YS {z:Int}:0<Ja z.natAbs↔z≠0:=by
 constructor
 ·intro h1 h2;rw[h2,show Int.natAbs 0=0 from rfl,JD] at h1;omega
 ·intro h1
  rcases Nat.eq_zero_or_pos (Ja z.natAbs) with h2 | h2
  ·have:=Qj.1 h2;omega
  ·exact h2
theorem jbm (z:Int):((!decide (z<0))&&decide (0<Ja z.natAbs))=decide (-z<0):=by
 have e0:=YS (z:=z);by_cases h1:z<0
 ·simp only[h1,decide_true,Bool.not_true,Bool.false_and];exact(zo (by omega)).symm
 ·simp only[h1,decide_false,Bool.not_false,Bool.true_and];exact decide_eq_decide.2 (e0.trans (by omega))
theorem neg_any (s1:Bool) (a1:Option Addr) (n1 c1:Nat) (o1:Nat->Int) (w:World)
  (h1:Rd w a1 n1 o1) (hn1:n1<=100000000) (hc1:n1<=c1) :
  Calls Tryz.prog 260 #[Jy s1 a1 n1 c1] w (Yk w (- Jq s1 n1 o1)):=by
 obtain⟨x2,d2,r2,l2,m2,O2⟩:=XF s1 a1 n1 c1 o1 w h1 (by omega) hc1
 generalize Jq s1 n1 o1=z2 at r2 l2 m2 O2 ⊢
 have HO2:=qh O2;have HR2:=qh r2;have HB1:=qh ((Bx.new w 26 (.bool s1) (.slice a1 n1 c1)).alloc (.cells #[.bool false,.slice none 0 0] 26));have HB2:=qh (Bx.X6 w (.cells #[.bool s1,.slice a1 n1 c1] 26) 26 (.bool false) (.slice none 0 0));clear O2 h1 r2;go_enter Tryz.func260,Tryz.ntmps260;go_wp2_with fail
 refine(HO2.o _ ?_).mono ?_
 ·exact qg
 rintro e w1 ⟨rfl,hb1⟩;have B1:=HB1.o.bl hb1;have B2:=HB2.o.bl hb1;have G1:=qh ((zk.alloc (by go_size) _ |>.alloc (by go_size) _).trans (hb1.mono (by go_size)):Below w.heap.size w w1);have K1:=qh B1;have K2:=qh B2;obtain⟨b10,b11,b12,b13⟩:=B1.all;clear HB1 HB2 B1 B2 hb1
 go_upto_region 2 with (fail)
 obtain⟨W,hW⟩:∃ W,W=((w1.setCell ⟨w.heap.size,0,none⟩ (.bool (decide (z2<0)))).setCell ⟨w.heap.size,1,none⟩ (.slice x2 (Ja z2.natAbs) d2)):=⟨_,rfl⟩;rw[<- hW];have HB1:=qh (K1.o.set (.bool (decide (z2<0))) (.slice x2 (Ja z2.natAbs) d2));have HB2:=qh ((K2.o.other (a:=⟨w.heap.size,0,none⟩) (by dsimp only;omega) (.bool (decide (z2<0)))).other (a:=⟨w.heap.size,1,none⟩) (by dsimp only;omega) (.slice x2 (Ja z2.natAbs) d2));have HG:=qh ((G1.o.setCell (p:=⟨w.heap.size,0,none⟩) zj (.bool (decide (z2<0)))).setCell (p:=⟨w.heap.size,1,none⟩) zj (.slice x2 (Ja z2.natAbs) d2));rw[<- hW] at HB1 HB2 HG;clear hW b10 b11 b12 b13 K1 K2 G1;have HS1:=qh (fun (w':World) (hb:Below W.heap.size W w')=>And.intro (HB1.o.bl hb).c0 (HB1.o.bl hb).c1);have CL:=qh (fun (w':World) (hb:Below W.heap.size W w')=>Xj x2 (Ja z2.natAbs) d2 (dgi z2.natAbs) w' (HR2.o.below (HG.o.trans (hb.mono HG.o.size))) (by omega));have CUT:=qh (fun (w':World) (x:Option Addr × Nat) (ho:Own 160 w' W.heap.size x.1 (Ja z2.natAbs) x.2 (dgi z2.natAbs)) (hx:x.1=none->x.2=0)=>XI (!decide (z2<0)) x.1 (Ja z2.natAbs) x.2 (dgi z2.natAbs) w' ho.rd (Js _ _) (by omega) ho.le hx);rw[Jz,Int.toNat_natCast,jbm] at CUT;obtain⟨sB,hsB⟩:∃ sB,sB=decide (-z2<0):=⟨_,rfl⟩;rw[<- hsB] at CUT;have HSB:=qh hsB;clear hsB
 refine Jc 7 (JM [(5,Sp.made (fun x:Option Addr × Nat=>.slice x.1 (Ja z2.natAbs) x.2) (fun x w'=>Own 160 w' W.heap.size x.1 (Ja z2.natAbs) x.2 (dgi z2.natAbs)/\(x.1=none->x.2=0))),
   (6,Sp.made (fun a:Option Addr=>Jy sB a (Ja z2.natAbs) (Ja z2.natAbs)) (fun a w'=>Own 160 w' W.heap.size a (Ja z2.natAbs) (Ja z2.natAbs) (dgi z2.natAbs)/\(a=none->Ja z2.natAbs=0)))])
  (fun w'=>Below W.heap.size W w') (by kernel_rfl) (by kernel_rfl)
  (Jd (Sp.Jg fun x w w' h hb=>⟨h.1.below hb,h.2⟩) (Jd (Sp.Jg fun x w w' h hb=>⟨h.1.below hb,h.2⟩) Jl)) (fun _ _ h hb=>h.trans (hb.mono h.size)) (zk.drew) ?_
 simp only[zx,zy,zv,zw]
 iterate 5
  (refine Jb rfl rfl ?_ (fun w' hw'=>?_) ?_;rotate_left;· (have hb':=Has.world hw';(have hs:=HS1.o _ hb');clear hw';go_simp;try rfl))
 (refine Jf rfl rfl (fun w' hw'=>?_) ?_;· (have hb':=Has.world hw';go_simp;((refine(CL.o w' hb').mono ?_;rintro e w'' ⟨a',cap',rfl,ho,hn,hb⟩;exact⟨_,rfl,⟨⟨a',cap',rfl⟩,⟨a',cap',rfl,ho.mono hb'.size,hn⟩⟩,hb⟩))))
 rintro _ ⟨x,rfl⟩
 (refine Jf rfl rfl (fun w' hw'=>?_) ?_;· (have hb':=Has.world hw';go_simp;((have h7:=VX (x:=x) (L:=Ja z2.natAbs) (T:=160) (o:=dgi z2.natAbs) (b:=W.heap.size) (hw'.fact 5 (by kernel_rfl));refine(CUT.o w' x h7.1 h7.2).mono ?_;rintro e w'' ⟨rfl,hb⟩;exact⟨_,rfl,⟨⟨_,rfl⟩,⟨_,rfl,(h7.1.below hb).cut zj (fun _ _=>rfl),fun h=>by have:=h7.1.le;have:=h7.2 h;omega⟩⟩,hb⟩))))
 rintro _ ⟨a,rfl⟩;refine Jn (fun w5 hb5 hF5=>?_);have OA:=UU (T:=160) (b:=W.heap.size) (s:=sB) (L:=Ja z2.natAbs) (o:=dgi z2.natAbs) (a:=a) (p:=fun x=>x=none->Ja z2.natAbs=0) (hF5 6);have HO:=qh OA;have B2:=HB2.o.bl hb5;have HB5:=qh B2;obtain⟨b30,b31,b32,b33⟩:=B2.all;have HG5:=qh (HG.o.trans (hb5.mono HG.o.size));have hz4:=HB2.o.lt;have hz5:=HG.o.size;clear hF5 OA B2 hb5 HS1 CL CUT;go_wp2_with fail
 unfold Yk;rw[Int.natAbs_neg,<- HSB.o];refine bodyPost_ret (Je rfl _ _ _ _ _ _ _ rfl (HB5.o.set _ _) Tryz.underlying26 rfl (by kernel_rfl)) rfl ⟨a,rfl,?_,HO.o.2,?_⟩
 ·exact((HO.o.1.oz).oz).mono hz5
 ·exact(HG5.o.sc).sc
theorem Uz (x y:Int):JB x y=if x<0 then (if y<0 then JB (y.natAbs:Int) (x.natAbs:Int) else -1) else if y<0 then 1 else JB (x.natAbs:Int) (y.natAbs:Int):=by
 by_cases h1:x<0 <;> by_cases h2:y<0
 ·rw[if_pos h1,if_pos h2];exact J7 (by omega) (by omega)
 ·rw[if_pos h1,if_neg h2];exact JO (by omega)
 ·rw[if_neg h1,if_pos h2];exact JR (by omega)
 ·rw[if_neg h1,if_neg h2];exact J7 (by omega) (by omega)
theorem UX (s1:Bool) (a1:Option Addr) (n1 c1:Nat) (o1:Nat->Int) (s2:Bool) (a2:Option Addr) (n2 c2:Nat) (o2:Nat->Int) (w:World)
  (h1:Rd w a1 n1 o1) (hn1:n1<=100000000) (hc1:n1<=c1) (h2:Rd w a2 n2 o2) (hn2:n2<=100000000) (hc2:n2<=c2) :
  Calls Tryz.prog 238 #[Jy s1 a1 n1 c1,Jy s2 a2 n2 c2] w fun e w'=>e=.returned (.int .i64 (JB (Jq s1 n1 o1) (Jq s2 n2 o2)))/\Below w.heap.size w w':=by
 obtain⟨x1,d1,r1,l1,m1,O1⟩:=XF s1 a1 n1 c1 o1 w h1 (by omega) hc1;obtain⟨x2,d2,r2,l2,m2,O2⟩:=XF s2 a2 n2 c2 o2 w h2 (by omega) hc2
 generalize Jq s1 n1 o1=z1 at r1 l1 m1 O1 ⊢
 have HO1:=qh O1;clear O1
 generalize Jq s2 n2 o2=z2 at r2 l2 m2 O2 ⊢
 have HO2:=qh O2;clear O2;have B1:=((Bx.new w 26 (.bool s1) (.slice a1 n1 c1)).alloc (.cells #[.bool s2,.slice a2 n2 c2] 26));have B2:=(Bx.X6 w (.cells #[.bool s1,.slice a1 n1 c1] 26) 26 (.bool s2) (.slice a2 n2 c2));go_enter Tryz.func238,Tryz.ntmps238
 go_upto_region 1 with (fail)
 obtain⟨W,hW⟩:∃ W,W=((w.alloc (.cells #[.bool s1,.slice a1 n1 c1] 26)).alloc (.cells #[.bool s2,.slice a2 n2 c2] 26)):=⟨_,rfl⟩;have G1:=qh ((zk.alloc (by go_size) _ |>.alloc (by go_size) _):Below w.heap.size w ((w.alloc (.cells #[.bool s1,.slice a1 n1 c1] 26)).alloc (.cells #[.bool s2,.slice a2 n2 c2] 26)));rw[<- hW] at B1 B2 G1;rw[show((w.alloc (.cells #[.bool s1,.slice a1 n1 c1] 26)).alloc (.cells #[.bool s2,.slice a2 n2 c2] 26))=W from hW.symm];clear hW;go_cut [] (fun wx=>Bx wx w.heap.size 26 (.bool (decide (z1<0))) (.slice x1 (Ja z1.natAbs) d1)/\Bx wx (w.heap.size+1) 26 (.bool (decide (z2<0))) (.slice x2 (Ja z2.natAbs) d2)/\Below w.heap.size w wx)
 case first =>
  have HS1:=qh (fun (w':World) (hb:Below W.heap.size W w')=>And.intro (B1.below hb B1.lt).c0 (B1.below hb B1.lt).c1);have HS2:=qh (fun (w':World) (hb:Below W.heap.size W w')=>And.intro (B2.below hb B2.lt).c0 (B2.below hb B2.lt).c1);have HB1:=qh B1;have HB2:=qh B2;clear B1 B2
  refine Jc 4 (JM [(1,Sp.know (Jy (decide (z1<0)) x1 (Ja z1.natAbs) d1)),(3,Sp.know (Jy (decide (z2<0)) x2 (Ja z2.natAbs) d2))]) (fun w'=>Below W.heap.size W w') (by kernel_rfl) (by kernel_rfl)
   (Jd (Sp.Jm _) (Jd (Sp.Jm _) Jl)) (fun _ _ h hb=>h.trans (hb.mono h.size)) (zk.drew) ?_
  simp only[zx,zy,zv,zw]
  (refine Jb rfl rfl ?_ (fun w' hw'=>?_) ?_;rotate_left;· (have hb':=Has.world hw';(have hs:=HS1.o _ hb');clear hw';go_simp;try rfl))
  (refine Jf rfl rfl (fun w' hw'=>?_) ?_;· (have hb':=Has.world hw';go_simp;((refine(HO1.o w' (G1.o.trans (hb'.mono G1.o.size))).mono ?_;rintro e w'' ⟨rfl,hb⟩;exact⟨_,rfl,rfl,hb⟩))))
  rintro _ rfl
  (refine Jb rfl rfl ?_ (fun w' hw'=>?_) ?_;rotate_left;· (have hb':=Has.world hw';(have hs:=HS2.o _ hb');clear hw';go_simp;try rfl))
  (refine Jf rfl rfl (fun w' hw'=>?_) ?_;· (have hb':=Has.world hw';go_simp;((refine(HO2.o w' (G1.o.trans (hb'.mono G1.o.size))).mono ?_;rintro e w'' ⟨rfl,hb⟩;exact⟨_,rfl,rfl,hb⟩))))
  rintro _ rfl;refine Jn (fun w1 hb1 hF=>?_);clear hF;have C1:=HB1.o.bl hb1;have C2:=HB2.o.bl hb1;have G2:=G1.o.trans (hb1.mono G1.o.size);have K1:=qh C1;have K2:=qh C2;obtain⟨b10,b11,b12,b13⟩:=C1.all;obtain⟨b20,b21,b22,b23⟩:=C2.all;have KG:=qh G2;clear C1 C2 hb1 HS1 HS2 G2;go_wp2_with fail
  go_meet
  case rel =>
   exact⟨((K1.o.set _ _).oz).oz,((K2.o.oz).oz).set _ _,
    (((KG.o.setCell (by simp) _).setCell (by simp) _).setCell (by simp) _).setCell (by simp) _⟩
 case rest =>
  obtain⟨B1,B2,G1⟩:=hcut;obtain⟨w1,rfl⟩:∃ w1,w1=wc:=⟨_,rfl⟩;have R1:=r1.below G1;have R2:=r2.below G1;have AM:=qh (Xc z1.natAbs z2.natAbs x1 x2 d1 d2 w1 R1 R2 (by omega) (by omega));have AN:=qh (Xc z2.natAbs z1.natAbs x2 x1 d2 d1 w1 R2 R1 (by omega) (by omega));have KG:=qh G1;have E:=qh (Uz z1 z2);obtain⟨b10,b11,b12,b13⟩:=B1.all;obtain⟨b20,b21,b22,b23⟩:=B2.all;clear B1 B2 G1 R1 R2 r1 r2 h1 h2 HO1 HO2
  by_cases n1:z1<0 <;> by_cases n2:z2<0
  ·have E2:=qh (E.o.trans (by rw[if_pos n1,if_pos n2]));rw[decide_eq_true n1] at b10;rw[decide_eq_true n2] at b20;clear n1 n2 E;go_wp2_with fail
   refine AN.o.mono ?_;rintro e w2 ⟨rfl,m,rfl⟩;go_wp2;go_ret;exact⟨by rw[E2.o];rfl,Qh KG.o m⟩
  ·have E2:=qh (E.o.trans (by rw[if_pos n1,if_neg n2]));rw[decide_eq_true n1] at b10;rw[zo n2] at b20;clear n1 n2 E;go_wp2;go_ret;exact⟨by rw[E2.o];rfl,KG.o⟩
  ·have E2:=qh (E.o.trans (by rw[if_neg n1,if_pos n2]));rw[zo n1] at b10;rw[decide_eq_true n2] at b20;clear n1 n2 E;go_wp2;go_ret;exact⟨by rw[E2.o];rfl,KG.o⟩
  ·have E2:=qh (E.o.trans (by rw[if_neg n1,if_neg n2]));rw[zo n1] at b10;rw[zo n2] at b20;clear n1 n2 E;go_wp2_with fail
   refine AM.o.mono ?_;rintro e w2 ⟨rfl,m,rfl⟩;go_wp2;go_ret;exact⟨by rw[E2.o];rfl,Qh KG.o m⟩
theorem jfb:Jq false 0 (fun _=>0)=0:=by
 unfold Jq
 split <;> rfl
theorem Vk (s1:Bool) (a1:Option Addr) (n1 c1:Nat) (o1:Nat->Int) (w:World) (h1:Rd w a1 n1 o1) (hn1:n1<=100000000) (hc1:n1<=c1) :
  Calls Tryz.prog 205 #[Jy s1 a1 n1 c1] w fun e w'=>e=.returned (.int .i64 (JB (Jq s1 n1 o1) 0))/\Below w.heap.size w w':=by
 have HR:=qh h1;clear h1;go_enter Tryz.func205,Tryz.ntmps205;go_wp2_with fail
 refine(UX s1 a1 n1 c1 o1 false none 0 0 (fun _=>0) _ (HR.o.below (w':=_) ?_) hn1 hc1 (Rd.nil _ _ _) (by omega) zj).mono ?_
 ·exact qg
 rw[jfb];rintro e w1 ⟨rfl,hb1⟩;have G1:=(zk.alloc (by go_size) _).trans (hb1.mono (by go_size));clear hb1;go_wp2;go_ret;exact⟨rfl,G1⟩
open Classical in
theorem Q7 (s:Bool) (a:Option Addr) (n cap:Nat) (o:Nat->Int) (w:World) (h:Rd w a n o) (hn:n<=1000000000) :
  Calls Tryz.prog 209 #[Jy s a n cap] w fun e w'=>e=.returned (.bool (decide (okN s n o)))/\Below w.heap.size w w':=by
 obtain⟨k0,hk0,hf,hb⟩:=Zu o n;have HF:=qh hf;have HB:=qh hb;have HR:=qh h;have EN:=qh (fun (hk:k0<n)=>show decide (okN s n o)=false from zo fun hh=>by have:=hh.1 k0 hk;have:=hb hk;omega)
 have E0:=qh (fun (h0:n=0)=>show decide (okN s n o) = !s by
    subst h0
    cases s with
    | false=>exact decide_eq_true ⟨fun i hi=>by omega,fun _=>rfl,fun h=>by omega⟩
    | true=>exact zo fun hh=>by have:=hh.2.1 rfl;contradiction)
 have E1:=qh (fun (h0:0<n) (hk:¬k0<n)=>show decide (okN s n o)=(o (n-1) != 0) by
    by_cases hz:o (n-1)=0
    ·rw[hz];exact zo fun hh=>hh.2.2 (by omega) hz
    ·rw[show(o (n-1) != 0)=true by simpa using hz]
     exact decide_eq_true ⟨fun i hi=>hf i (by omega),fun h=>by omega,fun _=>hz⟩)
 clear hf hb h;go_enter Tryz.func209,Tryz.ntmps209;go_wp2_with fail
 go_loopw [3] (fun i wr=>∃ j:Nat,j<=k0/\i=.int .i64 j/\wr=w.alloc (.cells #[.bool s,.slice a n cap] 26)) (fun i _=>n-(intOf i).toNat)
 case atStart=>exact⟨0,by omega,rfl,rfl⟩
 case round =>
  obtain⟨j,hj,rfl,rfl⟩:=hrel;by_cases hjn:j<n
  ·obtain⟨b,off,rfl,hc⟩:=HR.o.cells (by omega);have c1:w.cell? ⟨b,off+j,none⟩=some (.int .u32 (o j)):=hc j hjn;have hlt:b<w.heap.size:=block_lt_of_cell c1;clear hc;by_cases hjk:j<k0
   ·have D:=HF.o j hjk;go_wp2_with fail
    go_roundw
    case rel=>exact⟨j+1,by omega,by go_num,by trivial⟩
    case measure=>simp[intOf];omega
   ·obtain rfl:j=k0:=by omega
    have D:=HB.o hjn;go_wp2_with fail
    go_ret;exact⟨by rw[EN.o hjn];rfl,qg⟩
  ·have hkn:¬k0<n:=by omega
   obtain rfl:j=n:=by omega
   by_cases h0:j=0
   ·have E:=qh (E0.o h0);subst h0;go_wp2_with fail
    go_ret;exact⟨by rw[E.o];rfl,qg⟩
   ·obtain⟨q,rfl⟩:∃ q,j=q+1:=⟨j-1,by omega⟩;have E:=qh (E1.o (by omega) hkn);obtain⟨b,off,rfl,hc⟩:=HR.o.cells (by omega);have c1:w.cell? ⟨b,off+q,none⟩=some (.int .u32 (o q)):=hc q (by omega);have hlt:b<w.heap.size:=block_lt_of_cell c1
    have ex:((q+1:Nat):Int)-1=(q:Int):=by omega
    have ez:(decide (((q+1:Nat):Int)=0))=false:=by simp;omega
    clear hc;go_wp2_with fail
    go_ret;exact⟨by rw[E.o];rfl,qg⟩
open Classical in
theorem Q5 (s:Bool) (a:Option Addr) (n cap:Nat) (o:Nat->Int) (w:World) (h:Rd w a n o) (hn:n<=1000000000) (hcap:n<=cap) :
  ∃ a' cap',Rd w a' (Ja (Jq s n o).natAbs) (dgi (Jq s n o).natAbs)/\Ja (Jq s n o).natAbs<=n/\Ja (Jq s n o).natAbs<=cap' /\
   ∀ w1,Below w.heap.size w w1->Calls Tryz.prog 224 #[Jy s a n cap] w1 fun e w'=>e=.returned (Jy (decide (Jq s n o<0)) a' (Ja (Jq s n o).natAbs) cap')/\Below w1.heap.size w1 w':=by
 by_cases hk:okN s n o
 ·obtain⟨f1,f2,f3⟩:=Qy s n o hk h.rng;rw[f1,f2];refine⟨a,cap,h.congr f3,zj,hcap,fun w1 hb1=>?_⟩;have C:=qh (fun (w2:World) (hw:Below w1.heap.size w1 w2)=>Q7 s a n cap o w2 (h.below (hb1.trans (hw.mono hb1.size))) hn);rw[decide_eq_true hk] at C;clear h f1 f2 f3 hk hb1;go_enter Tryz.func224,Tryz.ntmps224;go_wp2_with fail
  refine(C.o _ ?_).mono ?_
  ·exact qg
  rintro e w2 ⟨rfl,hb2⟩;have B1:=((Bx.new w1 26 (.bool s) (.slice a n cap)).alloc (.cells #[.bool false,.slice none 0 0] 26)).below hb2 (by simp;omega);have B2:=(Bx.X6 w1 (.cells #[.bool s,.slice a n cap] 26) 26 (.bool false) (.slice none 0 0)).below hb2 (by simp);have hb0:Below w1.heap.size w1 w2:=(zk.alloc zj _ |>.alloc (by go_size) _).trans (hb2.mono (by go_size));obtain⟨b10,b11,b12,b13⟩:=B1.all;obtain⟨b20,b21,b22,b23⟩:=B2.all;have HB:=qh B2;clear hb2 B1 B2;go_wp2;refine bodyPost_ret (Je rfl _ _ _ _ _ _ _ rfl (HB.o.set _ _) Tryz.underlying26 rfl (by kernel_rfl)) rfl ⟨rfl,?_⟩;exact qg
 ·rw[show Jq s n o=0 from ja5 hk];rw[show(Int.natAbs 0)=0 from rfl,JD,show decide ((0:Int)<0)=false from rfl];refine⟨none,0,Rd.nil _ _ _,Nat.zero_le _,zj,fun w1 hb1=>?_⟩;have C:=qh (fun (w2:World) (hw:Below w1.heap.size w1 w2)=>Q7 s a n cap o w2 (h.below (hb1.trans (hw.mono hb1.size))) hn);rw[zo hk] at C;clear h hk hb1;go_enter Tryz.func224,Tryz.ntmps224;go_wp2_with fail
  refine(C.o _ ?_).mono ?_
  ·exact qg
  rintro e w2 ⟨rfl,hb2⟩;have B2:=(Bx.X6 w1 (.cells #[.bool s,.slice a n cap] 26) 26 (.bool false) (.slice none 0 0)).below hb2 (by simp);have hb0:Below w1.heap.size w1 w2:=(zk.alloc zj _ |>.alloc (by go_size) _).trans (hb2.mono (by go_size));obtain⟨b20,b21,b22,b23⟩:=B2.all;have HB:=qh B2;clear hb2 B2;go_wp2;refine bodyPost_ret (Je rfl _ _ _ _ _ _ _ rfl (HB.o.set _ _) Tryz.underlying26 rfl (by kernel_rfl)) rfl ⟨rfl,?_⟩;exact qg
theorem XY {w:World} {g n j:Nat} {p:Nat->Int} (h:w.rowIs g 160 n (uc p)) (v:Int):(w.setCell ⟨g,j,none⟩ (.int .u32 v)).rowIs g 160 n (uc (upd p j v)) :=
 (h.set j (.int .u32 v)).congr fun i hi=>by
  by_cases e:i=j
  ·subst e;rw[if_pos rfl];show _=Value.int .u32 (upd p i v i);rw[upd_same]
  ·rw[if_neg e];show Value.int .u32 (p i)=Value.int .u32 (upd p j v i);rw[upd_ne p v e]
theorem jbn (z1 z2:Int):((!(decide (z1<0)==decide (z2<0)))&&decide (0<Ja (z1*z2).natAbs))=decide (z1*z2<0):=by
 have e0:=YS (z:=z1*z2)
 rcases Int.lt_trichotomy z1 0 with h1 | h1 | h1
 ·rcases Int.lt_trichotomy z2 0 with h2 | h2 | h2
  ·have:=Int.mul_pos_of_neg_of_neg h1 h2;simp[h1,h2];omega
  ·subst h2;simp[h1,JD]
  ·have:=Int.mul_neg_of_neg_of_pos h1 h2
   have h3:¬z2<0:=by omega
   simp only[h1,h3,decide_true,decide_false,Bool.true_beq,Bool.not_false,Bool.true_and];exact decide_eq_decide.2 (e0.trans (by omega))
 ·subst h1;simp[JD]
 ·rcases Int.lt_trichotomy z2 0 with h2 | h2 | h2
  ·have:=Int.mul_neg_of_pos_of_neg h1 h2
   have h3:¬z1<0:=by omega
   simp only[h2,h3,decide_true,decide_false,Bool.false_beq,Bool.not_true,Bool.not_false,Bool.true_and];exact decide_eq_decide.2 (e0.trans (by omega))
  ·subst h2;simp[JD]
  ·have:=Int.mul_pos h1 h2
   have h3:¬z1<0:=by omega
   have h4:¬z2<0:=by omega
   simp[h3,h4];omega
theorem YT (s1:Bool) (a1:Option Addr) (n1 c1:Nat) (o1:Nat->Int) (s2:Bool) (a2:Option Addr) (n2 c2:Nat) (o2:Nat->Int) (w:World)
  (h1:Rd w a1 n1 o1) (hn1:n1<=100000000) (hc1:n1<=c1) (h2:Rd w a2 n2 o2) (hn2:n2<=100000000) (hc2:n2<=c2) :
  Calls Tryz.prog 137 #[Jy s1 a1 n1 c1,Jy s2 a2 n2 c2] w (Yk w (Jq s1 n1 o1*Jq s2 n2 o2)):=by
 obtain⟨x1,d1,r1,l1,m1,O1⟩:=XF s1 a1 n1 c1 o1 w h1 (by omega) hc1;obtain⟨x2,d2,r2,l2,m2,O2⟩:=XF s2 a2 n2 c2 o2 w h2 (by omega) hc2
 generalize Jq s1 n1 o1=z1 at r1 l1 m1 O1 ⊢
 have HO1:=qh O1;clear O1
 generalize Jq s2 n2 o2=z2 at r2 l2 m2 O2 ⊢
 have HO2:=qh O2;clear O2;have B1:=(((Bx.new w 26 (.bool s1) (.slice a1 n1 c1)).alloc (.cells #[.bool s2,.slice a2 n2 c2] 26)).alloc (.cells #[.bool false,.slice none 0 0] 26));have B2:=((Bx.X6 w (.cells #[.bool s1,.slice a1 n1 c1] 26) 26 (.bool s2) (.slice a2 n2 c2)).alloc (.cells #[.bool false,.slice none 0 0] 26));have B3:=(Bx.new3 w (.cells #[.bool s1,.slice a1 n1 c1] 26) (.cells #[.bool s2,.slice a2 n2 c2] 26) 26 (.bool false) (.slice none 0 0));go_enter Tryz.func137,Tryz.ntmps137
 go_upto_region 1 with (fail)
 obtain⟨W,hW⟩:∃ W,W=(((w.alloc (.cells #[.bool s1,.slice a1 n1 c1] 26)).alloc (.cells #[.bool s2,.slice a2 n2 c2] 26)).alloc (.cells #[.bool false,.slice none 0 0] 26)):=⟨_,rfl⟩;have G1:=qh ((zk.alloc (by go_size) _ |>.alloc (by go_size) _ |>.alloc (by go_size) _):Below w.heap.size w (((w.alloc (.cells #[.bool s1,.slice a1 n1 c1] 26)).alloc (.cells #[.bool s2,.slice a2 n2 c2] 26)).alloc (.cells #[.bool false,.slice none 0 0] 26)));rw[<- hW] at B1 B2 B3 G1;rw[show(((w.alloc (.cells #[.bool s1,.slice a1 n1 c1] 26)).alloc (.cells #[.bool s2,.slice a2 n2 c2] 26)).alloc (.cells #[.bool false,.slice none 0 0] 26))=W from hW.symm];clear hW
 go_cut [] (fun wx=>Bx wx w.heap.size 26 (.bool (decide (z1<0))) (.slice x1 (Ja z1.natAbs) d1)/\Bx wx (w.heap.size+1) 26 (.bool (decide (z2<0))) (.slice x2 (Ja z2.natAbs) d2) /\
  Bx wx (w.heap.size+1+1) 26 (.bool false) (.slice none 0 0)/\Below w.heap.size w wx)
 case first =>
  have HS1:=qh (fun (w':World) (hb:Below W.heap.size W w')=>And.intro (B1.below hb B1.lt).c0 (B1.below hb B1.lt).c1);have HS2:=qh (fun (w':World) (hb:Below W.heap.size W w')=>And.intro (B2.below hb B2.lt).c0 (B2.below hb B2.lt).c1);have HB1:=qh B1;have HB2:=qh B2;have HB3:=qh B3;clear B1 B2 B3
  refine Jc 4 (JM [(1,Sp.know (Jy (decide (z1<0)) x1 (Ja z1.natAbs) d1)),(3,Sp.know (Jy (decide (z2<0)) x2 (Ja z2.natAbs) d2))]) (fun w'=>Below W.heap.size W w') (by kernel_rfl) (by kernel_rfl)
   (Jd (Sp.Jm _) (Jd (Sp.Jm _) Jl)) (fun _ _ h hb=>h.trans (hb.mono h.size)) (zk.drew) ?_
  simp only[zx,zy,zv,zw]
  (refine Jb rfl rfl ?_ (fun w' hw'=>?_) ?_;rotate_left;· (have hb':=Has.world hw';(have hs:=HS1.o _ hb');clear hw';go_simp;try rfl))
  (refine Jf rfl rfl (fun w' hw'=>?_) ?_;· (have hb':=Has.world hw';go_simp;((refine(HO1.o w' (G1.o.trans (hb'.mono G1.o.size))).mono ?_;rintro e w'' ⟨rfl,hb⟩;exact⟨_,rfl,rfl,hb⟩))))
  rintro _ rfl
  (refine Jb rfl rfl ?_ (fun w' hw'=>?_) ?_;rotate_left;· (have hb':=Has.world hw';(have hs:=HS2.o _ hb');clear hw';go_simp;try rfl))
  (refine Jf rfl rfl (fun w' hw'=>?_) ?_;· (have hb':=Has.world hw';go_simp;((refine(HO2.o w' (G1.o.trans (hb'.mono G1.o.size))).mono ?_;rintro e w'' ⟨rfl,hb⟩;exact⟨_,rfl,rfl,hb⟩))))
  rintro _ rfl;refine Jn (fun w1 hb1 hF=>?_);clear hF;have C1:=HB1.o.bl hb1;have C2:=HB2.o.bl hb1;have C3:=HB3.o.bl hb1;have G2:=G1.o.trans (hb1.mono G1.o.size);have K1:=qh C1;have K2:=qh C2;have K3:=qh C3;obtain⟨b10,b11,b12,b13⟩:=C1.all;obtain⟨b20,b21,b22,b23⟩:=C2.all;have KG:=qh G2;clear C1 C2 C3 hb1 HS1 HS2 G2;go_wp2_with fail
  go_meet
  case rel =>
   exact⟨((K1.o.set _ _).oz).oz,((K2.o.oz).oz).set _ _,(((K3.o.oz).oz).oz).oz,
    (((KG.o.setCell (by simp) _).setCell (by simp) _).setCell (by simp) _).setCell (by simp) _⟩
 case rest =>
  obtain⟨B1,B2,B3,G1⟩:=hcut;obtain⟨w1,rfl⟩:∃ w1,w1=wc:=⟨_,rfl⟩;have HR1:=qh r1;have HR2:=qh r2;have KG:=qh G1;have K1:=qh B1;have K2:=qh B2;have K3:=qh B3;obtain⟨b10,b11,b12,b13⟩:=B1.all;obtain⟨b20,b21,b22,b23⟩:=B2.all;obtain⟨n,hn⟩:∃ n,n=Ja z1.natAbs+Ja z2.natAbs:=⟨_,rfl⟩;have HN:=qh hn
  have hnb:n<=200000000:=by omega
  have ew:((Ja z1.natAbs:Nat):Int)+((Ja z2.natAbs:Nat):Int)=(n:Int):=by omega
  have hmk:=run_make_row' (P:=Tryz.prog) 24 160 (.int .u32 0) 4 Tryz.underlying24 Qt rfl .i64 .i64 n (by omega) (by omega);clear B1 B2 B3 G1 r1 r2 h1 h2 HO1 HO2 hn;obtain⟨X,hX⟩:∃ X,X=Ja z1.natAbs:=⟨_,rfl⟩;obtain⟨Y,hY⟩:∃ Y,Y=Ja z2.natAbs:=⟨_,rfl⟩;rw[<- hX] at b11 HR1 ew l1 m1 HN;rw[<- hY] at b21 HR2 ew l2 m2 HN;have HX:=qh hX;have HY:=qh hY;have hz1:=K3.o.lt;clear hX hY;obtain⟨fx,hfx⟩:∃ fx,fx=dgi z1.natAbs:=⟨_,rfl⟩;obtain⟨fy,hfy⟩:∃ fy,fy=dgi z2.natAbs:=⟨_,rfl⟩;have DX:=qh (show Dig fx X by rw[hfx];exact Js _ _);have DY:=qh (show Dig fy Y by rw[hfy];exact Js _ _);have SX:=qh (show Jh fx X=z1.natAbs by rw[hfx,HX.o];exact Jz _);have SY:=qh (show Jh fy Y=z2.natAbs by rw[hfy,HY.o];exact Jz _);rw[<- hfx] at HR1;rw[<- hfy] at HR2;clear hfx hfy;go_wp2_with fail
  go_loopw [26] (fun i wr=>∃ k:Nat,k<=X/\i=.int .i64 k/\(∃ o,XD fx fy Y n k o/\wr.rowIs w1.heap.size 160 n (uc o)) /\
   Bx wr w.heap.size 26 (.bool (decide (z1<0))) (.slice x1 X d1)/\Bx wr (w.heap.size+1) 26 (.bool (decide (z2<0))) (.slice x2 Y d2) /\
   Bx wr (w.heap.size+1+1) 26 (.bool false) (.slice none 0 0)/\Below w.heap.size w wr) (fun i _=>X-(intOf i).toNat)
  case atStart =>
   exact⟨0,by omega,rfl,⟨_,XD.start _ _ _ _,World.rowIs_made w1 (.int .u32 0) n 160⟩,(HX.o▸K1.o).alloc _,(HY.o▸K2.o).alloc _,K3.o.alloc _,KG.o.alloc KG.o.size _⟩
  case round =>
   obtain⟨k,hk,rfl,⟨o,hM,hR⟩,B1,B2,B3,G⟩:=hrel;have KM:=qh hM;have KR:=qh hR;have KG1:=qh G;have J1:=qh B1;have J2:=qh B2;have J3:=qh B3;obtain⟨b20,b21,b22,b23⟩:=B2.all;obtain⟨b10,b11,b12,b13⟩:=B1.all;clear hM hR G B1 B2 B3 hmk;by_cases hkX:k<X
   ·obtain⟨pb,po,rfl,hc⟩:=(HR1.o.below KG1.o).cells (by omega);have c1:=hc k hkX;clear hc;go_wp2_with fail
    go_loopw [8,34] (fun on i wr2=>∃ j:Nat,j<=Y/\i=.int .i64 j/\(∃ p v,on=.int .u64 v/\Ka fx fy Y n k j p v/\wr2.rowIs w1.heap.size 160 n (uc p)) /\
     Bx wr2 w.heap.size 26 (.bool (decide (z1<0))) (.slice (some ⟨pb,po,none⟩) X d1)/\Bx wr2 (w.heap.size+1) 26 (.bool (decide (z2<0))) (.slice x2 Y d2) /\
     Bx wr2 (w.heap.size+1+1) 26 (.bool false) (.slice none 0 0)/\Below w.heap.size w wr2) (fun _ i _=>Y-(intOf i).toNat)
    case atStart=>exact⟨0,by omega,rfl,⟨_,_,rfl,KM.o.inner,KR.o⟩,J1.o,J2.o,J3.o,KG1.o⟩
    case round =>
     obtain⟨j,hj,rfl,⟨p,v,rfl,hI,hR⟩,B1,B2,B3,G⟩:=hrel;have LM:=qh hI;have LR:=qh hR;have LG:=qh G;have L1:=qh B1;have L2:=qh B2;have L3:=qh B3;clear b10 b11 b12 b13 b20 b21 b22 b23 c1;obtain⟨b20,b21,b22,b23⟩:=B2.all;have hfz:=hR.frozen;clear hI hR G B1 B2 B3;by_cases hjY:j<Y
     ·obtain⟨qb,qo,rfl,hc⟩:=(HR2.o.below LG.o).cells (by omega);have c2:wr.cell? ⟨qb,qo+j,none⟩=some (.int .u32 (fy j)):=hc j hjY;have c3:wr.cell? ⟨w1.heap.size,k+j,none⟩=some (.int .u32 (p (k+j))):=LR.o.cell (i:=k+j) (by have:=HN.o;omega);have hx:=DX.o k hkX;have hy:=DY.o j hjY;obtain⟨hT,hS⟩:=LM.o.step hx hy hjY (by have:=HN.o;omega);have hpd:=LM.o.dig (k+j) (by have:=HN.o;omega);have hon:=LM.o.on0;have hb:=jds hx hy
      have hkn:k+j<n:=by have:=HN.o;omega
      have HSt:=qh hS;have w1':=IntWalk.u64_in (fx k) (by omega);have w2':=IntWalk.u64_in (fy j) (by omega);have w3':=IntWalk.u64_in (p (k+j)) (by omega);have w4':=IntWalk.u64_in (fx k*fy j) (by omega);have w5':=IntWalk.u64_in (fx k*fy j+p (k+j)) (by omega);have w6':=IntWalk.u64_in (v+(fx k*fy j+p (k+j))) (by omega);have t1:(v+(fx k*fy j+p (k+j))).tmod 1000000000=(v+(fx k*fy j+p (k+j)))%1000000000:=Int.tmod_eq_emod_of_nonneg hT.1;have t2:(v+(fx k*fy j+p (k+j))).tdiv 1000000000=(v+(fx k*fy j+p (k+j)))/1000000000:=Int.tdiv_eq_ediv_of_nonneg hT.1;have w7':=IntWalk.u32_in ((v+(fx k*fy j+p (k+j)))%1000000000) (by omega);have w8':=IntWalk.u64_in ((v+(fx k*fy j+p (k+j)))/1000000000) (by omega);clear hc hS hT hpd hon hb hx hy;dsimp only[uc];go_wp2_with fail
      go_roundw
      case rel=>exact⟨j+1,by omega,by go_num,⟨_,_,rfl,HSt.o,XY LR.o _⟩,L1.o.oz,L2.o.oz,L3.o.oz,LG.o.sc⟩
      case measure=>simp[intOf];omega
     ·obtain rfl:j=Y:=by omega
      obtain⟨vo,hco⟩:∃ vo,wr.cell? ⟨w1.heap.size,k+j,none⟩=some vo:=⟨_,LR.o.cell (i:=k+j) (by have:=HN.o;omega)⟩
      have hkn:k+j<n:=by have:=HN.o;omega
      have hon:=LM.o.on0;have w7':=IntWalk.u32_in v (by omega);have HSt:=qh (LM.o.row hkn);go_wp2_with fail
      go_roundw
      case rel=>exact⟨k+1,by omega,by go_num,⟨_,HSt.o,XY LR.o _⟩,L1.o.oz,L2.o.oz,L3.o.oz,LG.o.sc⟩
      case measure=>simp[intOf];omega
   ·obtain rfl:k=X:=by omega
    have hM:=KM.o;have hR:=KR.o
    have ht:(Jh o n).toNat=(z1*z2).natAbs:=by
     rw[hM.sum,SX.o,SY.o,Int.natAbs_mul,<- Int.natCast_mul,Int.toNat_natCast]
    have OW:=qh (Own.QJ hR zj (fun i hi=>by have:=hM.dig i hi;omega));have C:=XI (!(decide (z1<0)==decide (z2<0))) (some ⟨w1.heap.size,0,none⟩) n n o wr OW.o.rd hM.dig (by omega) zj (fun h=>by cases h);have hL:=JS hM.dig
    have hD:=fun i hi=>XH hM.dig i hi
    rw[ht,jbn] at C;rw[ht] at hL hD;obtain⟨sB,hsB⟩:∃ sB,sB=decide (z1*z2<0):=⟨_,rfl⟩;obtain⟨L,hLL⟩:∃ L,L=Ja (z1*z2).natAbs:=⟨_,rfl⟩;rw[<- hsB,<- hLL] at C;rw[<- hLL] at hL;have HC:=qh C;have HL:=qh hL;have HD:=qh hD;have HSB:=qh hsB;have HLL:=qh hLL;clear hM hR ht C hL hD hsB hLL;go_wp2_with fail
    refine HC.o.mono ?_;rintro e w2 ⟨rfl,hb2⟩;have B3:=J3.o.bl hb2;have K5:=qh B3;have O2:=qh ((OW.o.below hb2).cut HL.o (fun i hi=>(HD.o i (by have:=HL.o;omega)).symm));have G2:=qh (KG1.o.trans (hb2.mono KG1.o.size));have hz2:=KG.o.size;obtain⟨b30,b31,b32,b33⟩:=B3.all;clear B3 hb2 b10 b11 b12 b13 b20 b21 b22 b23;go_wp2_with fail
    unfold Yk;rw[<- HSB.o,<- HLL.o];refine bodyPost_ret (Je rfl _ _ _ _ _ _ _ rfl (K5.o.set _ _) Tryz.underlying26 rfl (by kernel_rfl)) rfl ⟨_,rfl,?_,(fun h=>by cases h),?_⟩
    ·exact((O2.o.oz).oz).mono hz2
    ·exact(G2.o.sc).sc
theorem KZ (x y:Nat) (a b:Option Addr) (ca cb:Nat) (w:World) (ha:Rd w a (Ja x) (dgi x)) (hb:Rd w b (Ja y) (dgi y)) (hx:Ja x<=1000000000) (hy:Ja y<=1000000000) :
  Calls Tryz.prog 251 #[.slice a (Ja x) ca,.slice b (Ja y) cb] w fun e w'=>e=.returned (.int .i64 (JB x y))/\∃ m,w'=w.drewN m:=by
 obtain⟨k0,hD⟩:=Yf (dgi x) (dgi y) (Ja x)
 have TC:=qh (fun (h:Ja x=Ja y)=>by
  have hC:=Yg (Js x _) (Js y _) hD;rw[Jz,show Jh (dgi y) (Ja x)=y by rw[h];exact Jz y] at hC
  exact hC)
 have CL:=qh (And.intro (fun (h:Ja x<Ja y)=>(JO (by have:=Kq h;omega):JB x y = -1)) (fun (h:Ja y<Ja x)=>(JR (by have:=Kq h;omega):JB x y=1)));obtain⟨hk0,heq,hne⟩:=hD;have EQ:=qh heq;have NE:=qh hne;have HA:=qh ha;have HB:=qh hb;clear heq hne ha hb;obtain⟨fx,hfx⟩:∃ fx,fx=dgi x:=⟨_,rfl⟩;obtain⟨fy,hfy⟩:∃ fy,fy=dgi y:=⟨_,rfl⟩;rw[<- hfx] at TC EQ NE HA;rw[<- hfy] at TC EQ NE HB;clear hfx hfy
 generalize JB (x:Int) (y:Int)=r at *
 generalize Ja x=X at *
 generalize Ja y=Y at *
 rcases Nat.lt_trichotomy X Y with h | h | h
 ·have E:=qh (CL.o.1 h)
  have hd:((X:Int)==(Y:Int))=false:=by simp;omega
  go_enter Tryz.func251,Tryz.ntmps251;go_wp2;go_ret;exact⟨by rw[E.o];rfl,0,rfl⟩
 ·subst h;have E:=qh (TC.o rfl);go_enter Tryz.func251,Tryz.ntmps251;go_wp2_with fail
  go_loopw [5] (fun i wr=>∃ j:Nat,k0<=j/\j<=X/\i=.int .i64 ((j:Int)-1)/\∃ m,wr=w.drewN m) (fun i _=>(1+intOf i).toNat)
  case atStart=>exact⟨X,hk0,zj,rfl,0,rfl⟩
  case round =>
   obtain⟨j,hj,hjn,rfl,m0,rfl⟩:=hrel;by_cases hj0:j=0
   ·subst hj0;have Z:=qh (show r=0 by rw[E.o,if_pos (by omega)]);rw[show(((0:Nat):Int)-1) = -1 from rfl];go_wp2;go_ret;exact⟨by rw[Z.o];rfl,m0,rfl⟩
   ·obtain⟨q,rfl⟩:∃ q,j=q+1:=⟨j-1,by omega⟩;rw[show(((q+1:Nat):Int)-1)=(q:Int) by omega];obtain⟨b1,o1,rfl,hc1⟩:=HA.o.cells (by omega);obtain⟨b2,o2,rfl,hc2⟩:=HB.o.cells (by omega);have c1:w.cell? ⟨b1,o1+q,none⟩=some (.int .u32 (fx q)):=hc1 q (by omega);have c2:w.cell? ⟨b2,o2+q,none⟩=some (.int .u32 (fy q)):=hc2 q (by omega)
    have lx:q<X:=by omega
    clear hc1 hc2
    rcases Int.lt_trichotomy (fx q) (fy q) with hlt | hlt | hlt
    ·have hkq:k0=q+1:=by
      rcases Nat.lt_or_ge q k0 with h | h
      ·omega
      ·have:=EQ.o q h lx;omega
     have Z:=qh (show r = -1 by rw[E.o,if_neg (by omega),hkq];exact JO hlt);have d1:decide (fx q<fy q)=true:=decide_eq_true hlt;clear hkq;go_wp2;go_quiet (fail);go_wp2;go_ret;exact⟨by rw[Z.o];rfl,_,by rw[World.drewN_drewN]⟩
    ·have hkq:k0<=q:=by
      rcases Nat.lt_or_ge q k0 with h | h
      ·have h2:=NE.o (by omega);rw[show k0-1=q by omega] at h2;exact absurd hlt h2
      ·exact h
     have d1:decide (fx q<fy q)=false:=zo (by omega);have d2:decide (fx q>fy q)=false:=zo (by omega);have d3:decide (fy q<fx q)=false:=zo (by omega)
     have n1:¬fx q<fy q:=by omega
     have n2:¬fy q<fx q:=by omega
     clear hlt;go_wp2;go_quiet (fail);go_wp2;go_quiet (fail);go_wp2;go_roundw
     case rel=>exact⟨q,hkq,by omega,rfl,_,rfl⟩
     case measure=>simp[intOf];omega
    ·have hkq:k0=q+1:=by
      rcases Nat.lt_or_ge q k0 with h | h
      ·omega
      ·have:=EQ.o q h lx;omega
     have Z:=qh (show r=1 by rw[E.o,if_neg (by omega),hkq];exact JR hlt)
     have n1:¬fx q<fy q:=by omega
     have d1:decide (fx q<fy q)=false:=zo n1;clear hkq;go_wp2;go_quiet (fail);go_wp2;go_quiet (fail);go_wp2;go_ret;exact⟨by rw[Z.o];rfl,_,by rw[World.drewN_drewN,World.drewN_drewN]⟩
 ·have E:=qh (CL.o.2 h)
  have hd:((X:Int)==(Y:Int))=false:=by simp;omega
  go_enter Tryz.func251,Tryz.ntmps251;go_wp2;go_ret;exact⟨by rw[E.o];rfl,0,rfl⟩
theorem num_any (s:Bool) (a:Option Addr) (n cap:Nat) (o:Nat->Int) (w:World) (h:Rd w a n o) (hd:Dig o n) (hn:n<=1000000000) (hcap:n<=cap) :
  Calls Tryz.prog 222 #[.bool s,.slice a n cap] w fun e w'=>e=.returned (Jy (s&&decide (0<Ja (Jh o n).toNat)) a (Ja (Jh o n).toNat) cap)/\Below w.heap.size w w':=by
 have HL:=qh (JS hd);have HZ:=qh (fun i=>jbk (i:=i) hd);have HT:=qh (jbl hd)
 generalize Ja (Jh o n).toNat=L at HL HZ HT ⊢
 have HR:=qh h;clear hd h;have B0:=qh (Bx.new w 26 (.bool false) (.slice none 0 0));go_enter Tryz.func222,Tryz.ntmps222;go_wp2_with fail
 go_loopw [1] (fun v wr=>∃ j:Nat,L<=j/\j<=n/\v=.slice a j cap/\∃ m,wr=(w.alloc (.cells #[.bool false,.slice none 0 0] 26)).drewN m) (fun v _=>match v with | .slice _ j _=>j | _=>0)
 case atStart=>exact⟨n,HL.o,zj,rfl,0,rfl⟩
 case round =>
  obtain⟨j,hj,hjn,rfl,m0,rfl⟩:=hrel;have B1:=B0.o.drewN m0;obtain⟨b10,b11,b12,b13⟩:=B1.all;have KB:=qh B1;clear B1;by_cases hj0:j=0
  ·obtain rfl:L=0:=by omega
   subst hj0
   cases s with
   | false =>
    go_wp2
    all_goals
     refine bodyPost_ret (Je rfl _ _ _ _ _ _ _ rfl (KB.o.set _ _) Tryz.underlying26 rfl (by kernel_rfl)) rfl ⟨rfl,?_⟩
     exact qg
   | true =>
    go_wp2
    all_goals
     refine bodyPost_ret (Je rfl _ _ _ _ _ _ _ rfl (KB.o.set _ _) Tryz.underlying26 rfl (by kernel_rfl)) rfl ⟨rfl,?_⟩;exact qg
  ·obtain⟨q,rfl⟩:∃ q,j=q+1:=⟨j-1,by omega⟩;obtain⟨b,off,rfl,hc⟩:=HR.o.cells (by omega);have c1:w.cell? ⟨b,off+q,none⟩=some (.int .u32 (o q)):=hc q (by omega);have hb:b<w.heap.size:=block_lt_of_cell c1
   have ex:((q+1:Nat):Int)-1=(q:Int):=by omega
   have hq:((q+1:Nat):Int)>0:=by omega
   clear hc;by_cases hjL:q+1=L
   ·subst hjL;have hz:o q≠0:=HT.o (by omega)
    have hzb:(o q==0)=false:=by simpa using hz
    have D:=qh (show decide (0<q+1)=true by simp)
    cases s with
    | false =>
     go_wp2
     all_goals
      refine bodyPost_ret (Je rfl _ _ _ _ _ _ _ rfl (KB.o.set _ _) Tryz.underlying26 rfl (by kernel_rfl)) rfl ⟨rfl,?_⟩
      exact qg
    | true =>
     go_wp2
     all_goals
      refine bodyPost_ret (Je rfl _ _ _ _ _ _ _ rfl (KB.o.set _ _) Tryz.underlying26 rfl (by kernel_rfl)) rfl ⟨by rw[D.o];rfl,?_⟩;exact qg
   ·have hz:=HZ.o q (by omega) (by omega);go_wp2;go_roundw
    case rel=>exact⟨q,by omega,by omega,rfl,m0,rfl⟩
    case measure=>simp
theorem jfc (x y:Option Addr) (X Y cx cy:Nat) (fx fy:Nat->Int) (w:World) (hx:Rd w x X fx) (hy:Rd w y Y fy) (dx:Dig fx X) (dy:Dig fy Y) (hX:X<=100000000) (hY:Y<=100000000) :
  Calls Tryz.prog 227 #[.slice x X cx,.slice y Y cy] w fun e w'=>∃ o,e=.returned (.slice (some ⟨w.heap.size,0,none⟩) (X+Y) (X+Y))/\Dig o (X+Y)/\Jh o (X+Y)=Jh fx X*Jh fy Y /\
   Own 160 w' w.heap.size (some ⟨w.heap.size,0,none⟩) (X+Y) (X+Y) o/\Below w.heap.size w w':=by
 obtain⟨n,hn⟩:∃ n,n=X+Y:=⟨_,rfl⟩;rw[<- hn];have HN:=qh hn
 have hnb:n<=200000000:=by omega
 have ew:(X:Int)+(Y:Int)=(n:Int):=by omega
 have hmk:=run_make_row' (P:=Tryz.prog) 24 160 (.int .u32 0) 4 Tryz.underlying24 Qt rfl .i64 .i64 n (by omega) (by omega);have HR1:=qh hx;have HR2:=qh hy;have DX:=qh dx;have DY:=qh dy;clear hx hy dx dy hn;go_enter Tryz.func227,Tryz.ntmps227;go_wp2_with fail
 go_loopw [6] (fun i wr=>∃ k:Nat,k<=X/\i=.int .i64 k/\(∃ o,XD fx fy Y n k o/\wr.rowIs w.heap.size 160 n (uc o))/\Below w.heap.size w wr) (fun i _=>X-(intOf i).toNat)
 case atStart=>exact⟨0,by omega,rfl,⟨_,XD.start _ _ _ _,World.rowIs_made w (.int .u32 0) n 160⟩,qg⟩
 case round =>
  obtain⟨k,hk,rfl,⟨o,hM,hR⟩,G⟩:=hrel;have KM:=qh hM;have KR:=qh hR;have KG1:=qh G;clear hM hR G hmk;by_cases hkX:k<X
  ·obtain⟨pb,po,rfl,_⟩:=(HR1.o.below KG1.o).cells (by omega);go_wp2_with fail
   go_loopw [7,8] (fun on i wr2=>∃ j:Nat,j<=Y/\i=.int .i64 j/\(∃ p v,on=.int .u64 v/\Ka fx fy Y n k j p v/\wr2.rowIs w.heap.size 160 n (uc p))/\Below w.heap.size w wr2) (fun _ i _=>Y-(intOf i).toNat)
   case atStart=>exact⟨0,by omega,rfl,⟨_,_,rfl,KM.o.inner,KR.o⟩,KG1.o⟩
   case round =>
    obtain⟨j,hj,rfl,⟨p,v,rfl,hI,hR⟩,G⟩:=hrel;have LM:=qh hI;have LR:=qh hR;have LG:=qh G;have hfz:=hR.frozen;clear hI hR G;by_cases hjY:j<Y
    ·obtain⟨qb,qo,rfl,hc⟩:=(HR2.o.below LG.o).cells (by omega);have c2:wr.cell? ⟨qb,qo+j,none⟩=some (.int .u32 (fy j)):=hc j hjY;obtain⟨pb',po',e',hc1⟩:=(HR1.o.below LG.o).cells (by omega)
     cases e'
     have c1:wr.cell? ⟨pb,po+k,none⟩=some (.int .u32 (fx k)):=hc1 k hkX
     have hkn:k+j<n:=by have:=HN.o;omega
     have c3:wr.cell? ⟨w.heap.size,k+j,none⟩=some (.int .u32 (p (k+j))):=LR.o.cell (i:=k+j) hkn;have hx:=DX.o k hkX;have hy:=DY.o j hjY;obtain⟨hT,hS⟩:=LM.o.step hx hy hjY (by have:=HN.o;omega);rw[<- Int.add_assoc] at hT hS;have hpd:=LM.o.dig (k+j) hkn;have hon:=LM.o.on0;have hb:=jds hx hy;have HSt:=qh hS;have w1':=IntWalk.u64_in (fx k) (by omega);have w2':=IntWalk.u64_in (fy j) (by omega);have w3':=IntWalk.u64_in (p (k+j)) (by omega);have w4':=IntWalk.u64_in (fx k*fy j) (by omega);have w5':=IntWalk.u64_in (v+fx k*fy j) (by omega);have w6':=IntWalk.u64_in (v+fx k*fy j+p (k+j)) (by omega);have t1:(v+fx k*fy j+p (k+j)).tmod 1000000000=(v+fx k*fy j+p (k+j))%1000000000:=Int.tmod_eq_emod_of_nonneg hT.1;have t2:(v+fx k*fy j+p (k+j)).tdiv 1000000000=(v+fx k*fy j+p (k+j))/1000000000:=Int.tdiv_eq_ediv_of_nonneg hT.1;have w7':=IntWalk.u32_in ((v+fx k*fy j+p (k+j))%1000000000) (by omega);have w8':=IntWalk.u64_in ((v+fx k*fy j+p (k+j))/1000000000) (by omega);have w9':=IntWalk.i64_in ((k:Int)+(j:Int)) (by omega);clear hc hc1 hS hT hpd hon hb hx hy;go_wp2_with fail
     go_quiet (fail);go_wp2_with fail
     go_roundw
     case rel=>exact⟨j+1,by omega,by go_num,⟨_,_,rfl,HSt.o,XY (w:=wr.drewN nq) LR.o _⟩,(Qh LG.o nq).sc⟩
     case measure=>simp[intOf];omega
    ·obtain rfl:j=Y:=by omega
     have hkn:k+j<n:=by have:=HN.o;omega
     obtain⟨vo,hco⟩:∃ vo,wr.cell? ⟨w.heap.size,k+j,none⟩=some vo:=⟨_,LR.o.cell (i:=k+j) hkn⟩;have hon:=LM.o.on0;have w7':=IntWalk.u32_in v (by omega);have HSt:=qh (LM.o.row hkn);go_wp2_with fail
     go_roundw
     case rel=>exact⟨k+1,by omega,by go_num,⟨_,HSt.o,XY LR.o _⟩,LG.o.sc⟩
     case measure=>simp[intOf];omega
  ·obtain rfl:k=X:=by omega
   go_wp2_with fail
   go_ret;exact⟨o,rfl,KM.o.dig,KM.o.sum,Own.QJ KR.o zj (fun i hi=>by have:=KM.o.dig i hi;omega),KG1.o⟩
def ShortR (w:World) (n:Nat) (X by':Int) (e:Ending) (w':World):Prop :=
 ∃ p,e=.returned (.tuple #[.slice (some ⟨w.heap.size,0,none⟩) n n,.int .u32 (X%by')])/\Dig p n/\Jh p n=X/by'/\Own 160 w' w.heap.size (some ⟨w.heap.size,0,none⟩) n n p/\Below w.heap.size w w'
theorem VY (a:Option Addr) (n c:Nat) (o:Nat->Int) (by':Int) (w:World) (hx:Rd w a n o) (dx:Dig o n) (hn:n<=200000000) (h0:0<by') (h1:by'<=999999999) :
  Calls Tryz.prog 216 #[.slice a n c,.int .u32 by'] w (ShortR w n (Jh o n) by'):=by
 obtain⟨nn,hnn⟩:∃ nn:Nat,nn=n:=⟨_,rfl⟩;have hmk:=run_make_row' (P:=Tryz.prog) 24 160 (.int .u32 0) 4 Tryz.underlying24 Qt rfl .i64 .i64 n (by omega) (by omega);have HR:=qh hx;have DX:=qh dx;have wb:=IntWalk.u64_in by' (by omega);clear hx dx hnn;go_enter Tryz.func216,Tryz.ntmps216;go_wp2_with fail
 go_loopw [6,7] (fun rv iv wr=>∃ i:Nat,i<=n/\iv=.int .i64 ((i:Int)-1)/\(∃ p rest,rv=.int .u64 rest/\QD o n by' i p rest/\wr.rowIs w.heap.size 160 n (uc p))/\Below w.heap.size w wr) (fun _ iv _=>(1+intOf iv).toNat)
 case atStart=>exact⟨n,by omega,rfl,⟨_,_,rfl,QD.start _ _ _,World.rowIs_made w (.int .u32 0) n 160⟩,qg⟩
 case round =>
  obtain⟨i,hi,rfl,⟨p,rest,rfl,hI,hR⟩,G⟩:=hrel;have KM:=qh hI;have KR:=qh hR;have KG:=qh G;have hfz:=hR.frozen;have hbd:=hI.bd h0;clear hI hR G hmk;by_cases hi0:i=0
  ·subst hi0;obtain⟨d1,d2⟩:=KM.o.done;have HD:=qh (And.intro d1 d2);have w1':=IntWalk.u32_in rest (by omega);rw[show(((0:Nat):Int)-1) = -1 from rfl];clear d1 d2;go_wp2_with fail
   go_ret2;exact⟨p,by rw[<- HD.o.2];rfl,KM.o.dig,HD.o.1,Own.QJ KR.o zj (fun i hi=>by have:=KM.o.dig i hi;omega),KG.o⟩
  ·obtain⟨q,rfl⟩:∃ q,i=q+1:=⟨i-1,by omega⟩;rw[show(((q+1:Nat):Int)-1)=(q:Int) by omega];obtain⟨b,off,rfl,hc⟩:=(HR.o.below KG.o).cells (by omega);have c1:wr.cell? ⟨b,off+q,none⟩=some (.int .u32 (o q)):=hc q (by omega);obtain⟨vo,hco⟩:∃ vo,wr.cell? ⟨w.heap.size,q,none⟩=some vo:=⟨_,KR.o.cell (i:=q) (by omega)⟩;have ho:=DX.o q (by omega);have hpb:=UQ h0 hbd ho;have hm1:rest*1000000000<=999999998*1000000000:=Int.mul_le_mul_of_nonneg_right (by omega) (by omega);have hm2:0<=rest*1000000000:=Int.mul_nonneg hbd.1 (by omega);have hmd:0<=(rest*1000000000+o q)%by'/\(rest*1000000000+o q)%by' < by':=⟨Int.emod_nonneg _ (by omega),Int.emod_lt_of_pos _ h0⟩;have ST:=qh (KM.o.step h0 DX.o (by omega));have ec:1000000000*rest=rest*1000000000:=Int.mul_comm _ _;have w1':=IntWalk.u64_in (rest*1000000000) (by omega);have w2':=IntWalk.u64_in (o q) (by omega);have w3':=IntWalk.u64_in (rest*1000000000+o q) (by omega);have t1:(rest*1000000000+o q).tdiv by'=(rest*1000000000+o q)/by':=Int.tdiv_eq_ediv_of_nonneg (by omega);have t2:(rest*1000000000+o q).tmod by'=(rest*1000000000+o q)%by':=Int.tmod_eq_emod_of_nonneg (by omega);have w4':=IntWalk.u64_in ((rest*1000000000+o q)/by') (by omega);have w5':=IntWalk.u32_in ((rest*1000000000+o q)/by') (by omega);have w6':=IntWalk.u64_in ((rest*1000000000+o q)%by') (by omega)
   have hne:¬by'=0:=by omega
   have hlt:q<n:=by omega
   clear hc ho hpb hm1 hm2 hmd hbd;go_wp2_with fail
   go_roundw
   case rel=>exact⟨q,by omega,rfl,⟨_,_,rfl,ST.o,XY KR.o _⟩,KG.o.sc⟩
   case measure=>simp[intOf];omega
theorem jfd (a:Option Addr) (n c:Nat) (o:Nat->Int) (by':Int) (w:World) (hx:Rd w a n o) (dx:Dig o n) (hn:n<=200000000) (h0:0<by') (h1:by'<=999999999) :
  Calls Tryz.prog 261 #[.slice a n c,.int .u32 by'] w (ShortR w n (Jh o n) by'):=by
 obtain⟨nn,hnn⟩:∃ nn:Nat,nn=n:=⟨_,rfl⟩;have hmk:=run_make_row' (P:=Tryz.prog) 24 160 (.int .u32 0) 4 Tryz.underlying24 Qt rfl .i64 .i64 n (by omega) (by omega);have HR:=qh hx;have DX:=qh dx;have wb:=IntWalk.u64_in by' (by omega);clear hx dx hnn;go_enter Tryz.func261,Tryz.ntmps261;go_wp2_with fail
 go_loopw [7,8] (fun rv iv wr=>∃ i:Nat,i<=n/\iv=.int .i64 ((i:Int)-1)/\(∃ p rest,rv=.int .u64 rest/\QD o n by' i p rest/\wr.rowIs w.heap.size 160 n (uc p))/\Below w.heap.size w wr) (fun _ iv _=>(1+intOf iv).toNat)
 case atStart=>exact⟨n,by omega,rfl,⟨_,_,rfl,QD.start _ _ _,World.rowIs_made w (.int .u32 0) n 160⟩,qg⟩
 case round =>
  obtain⟨i,hi,rfl,⟨p,rest,rfl,hI,hR⟩,G⟩:=hrel;have KM:=qh hI;have KR:=qh hR;have KG:=qh G;have hfz:=hR.frozen;have hbd:=hI.bd h0;clear hI hR G hmk;by_cases hi0:i=0
  ·subst hi0;obtain⟨d1,d2⟩:=KM.o.done;have HD:=qh (And.intro d1 d2);have w1':=IntWalk.u32_in rest (by omega);rw[show(((0:Nat):Int)-1) = -1 from rfl];clear d1 d2;go_wp2_with fail
   go_ret2;exact⟨p,by rw[<- HD.o.2];rfl,KM.o.dig,HD.o.1,Own.QJ KR.o zj (fun i hi=>by have:=KM.o.dig i hi;omega),KG.o⟩
  ·obtain⟨q,rfl⟩:∃ q,i=q+1:=⟨i-1,by omega⟩;rw[show(((q+1:Nat):Int)-1)=(q:Int) by omega];obtain⟨b,off,rfl,hc⟩:=(HR.o.below KG.o).cells (by omega);have c1:wr.cell? ⟨b,off+q,none⟩=some (.int .u32 (o q)):=hc q (by omega);obtain⟨vo,hco⟩:∃ vo,wr.cell? ⟨w.heap.size,q,none⟩=some vo:=⟨_,KR.o.cell (i:=q) (by omega)⟩;have ho:=DX.o q (by omega);have hpb:=UQ h0 hbd ho;have hm1:rest*1000000000<=999999998*1000000000:=Int.mul_le_mul_of_nonneg_right (by omega) (by omega);have hm2:0<=rest*1000000000:=Int.mul_nonneg hbd.1 (by omega);have hmd:0<=(rest*1000000000+o q)%by'/\(rest*1000000000+o q)%by' < by':=⟨Int.emod_nonneg _ (by omega),Int.emod_lt_of_pos _ h0⟩;have ST:=qh (KM.o.step h0 DX.o (by omega));have ec:1000000000*rest=rest*1000000000:=Int.mul_comm _ _;have w1':=IntWalk.u64_in (rest*1000000000) (by omega);have w2':=IntWalk.u64_in (o q) (by omega);have w3':=IntWalk.u64_in (rest*1000000000+o q) (by omega);have t1:(rest*1000000000+o q).tdiv by'=(rest*1000000000+o q)/by':=Int.tdiv_eq_ediv_of_nonneg (by omega);have t2:(rest*1000000000+o q).tmod by'=(rest*1000000000+o q)%by':=Int.tmod_eq_emod_of_nonneg (by omega);have w4':=IntWalk.u64_in ((rest*1000000000+o q)/by') (by omega);have w5':=IntWalk.u32_in ((rest*1000000000+o q)/by') (by omega);have w6':=IntWalk.u64_in ((rest*1000000000+o q)%by') (by omega)
   have hne:¬by'=0:=by omega
   have hlt:q<n:=by omega
   clear hc ho hpb hm1 hm2 hmd hbd;go_wp2_with fail
   go_roundw
   case rel=>exact⟨q,by omega,rfl,⟨_,_,rfl,ST.o,XY KR.o _⟩,KG.o.sc⟩
   case measure=>simp[intOf];omega
end Limb
end Go.Proofs.YtgkkbkoiaccmfaaGreatDoor
