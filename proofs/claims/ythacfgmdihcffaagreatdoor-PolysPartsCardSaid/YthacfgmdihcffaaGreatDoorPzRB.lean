/-
  The walks of of, Clip, cut of package limbs.
-/
import Derived.Test.YthacfgmdihcffaaGreatDoorPzRA
import Derived.StillTailTactics
import Derived.Lib.QuietBelow
import Derived.BigRegion
import Derived.Lib.ItoaMem
set_option linter.unusedSimpArgs false
set_option linter.unusedVariables false
set_option maxHeartbeats 16000000
set_option maxRecDepth 100000
namespace Go.Proofs.YthacfgmdihcffaaGreatDoor
namespace Limb
def upd (o:Nat->Int) (j:Nat) (v:Int):Nat->Int:=fun t=>if t=j then v else o t
theorem upd_same (o:Nat->Int) (j:Nat) (v:Int):upd o j v j=v:=by simp[upd]
theorem upd_ne (o:Nat->Int) {j t:Nat} (v:Int) (h:t≠j):upd o j v t=o t:=by simp[upd,h]
theorem sumB_upd_ge (o:Nat->Int) (v:Int) {j:Nat}:∀ {n:Nat},n<=j->sumB (upd o j v) n=sumB o n:=fun h =>
 sumB_congr fun i hi=>upd_ne o v (by omega)
theorem sumB_upd (o:Nat->Int) (v:Int) {j n:Nat} (h:j<n):sumB (upd o j v) n=sumB o n+(v-o j)*(pw j:Int):=by
 induction n with
 | zero=>omega
 | succ n ih =>
  rw[sumB,sumB];by_cases e:j=n
  ·subst e;rw[sumB_upd_ge o v zj,upd_same,Int.sub_mul];omega
  ·rw[ih (by omega),upd_ne o v (by omega)];omega
theorem upd_Dig {o:Nat->Int} {n:Nat} (h:Dig o n) (j:Nat) {v:Int} (hv:0<=v/\v<1000000000):Dig (upd o j v) n:=by
 intro i hi;by_cases e:i=j
 ·subst e;rw[upd_same];exact hv
 ·rw[upd_ne o v e];exact h i hi
structure MulRow (x y:Nat->Int) (lb n i:Nat) (o:Nat->Int):Prop where
 dig:Dig o n
 sum:sumB o n=sumB x i*sumB y lb
 out:∀ j,i+lb<=j->j<n->o j=0
theorem MulRow.o {x y:Nat->Int} {lb n i:Nat} {o:Nat->Int} (h:MulRow x y lb n i o):∀ j,i+lb<=j->j<n->o j=0:=h.out
structure MulIn (x y:Nat->Int) (lb n i k:Nat) (o:Nat->Int) (on:Int):Prop where
 dig:Dig o n
 on0:0<=on/\on<1000000000
 sum:sumB o n+on*(pw (i+k):Int)=sumB x i*sumB y lb+x i*sumB y k*(pw i:Int)
 out:∀ j,i+lb<=j->j<n->o j=0
theorem MulIn.o {x y:Nat->Int} {lb n i k:Nat} {o:Nat->Int} {on:Int} (h:MulIn x y lb n i k o on):∀ j,i+lb<=j->j<n->o j=0:=h.out
theorem MulRow.start (x y:Nat->Int) (lb n:Nat):MulRow x y lb n 0 (fun _=>0) :=
 ⟨fun i _=>by omega,by rw[sumB_zero (fun _ _=>rfl)];show(0:Int)=0*_;omega,fun _ _ _=>rfl⟩
theorem MulRow.inner {x y:Nat->Int} {lb n i:Nat} {o:Nat->Int} (h:MulRow x y lb n i o):MulIn x y lb n i 0 o 0 :=
 ⟨h.dig,by omega,by rw[h.sum];show _+0*_=_+x i*0*_;rw[Int.mul_zero];omega,h.o⟩
theorem mul_bd {a b:Int} (ha:0<=a/\a<1000000000) (hb:0<=b/\b<1000000000):0<=a*b/\a*b<=999999998000000001:=by
 constructor
 ·exact Int.mul_nonneg ha.1 hb.1
 ·calc a*b<=999999999*b:=Int.mul_le_mul_of_nonneg_right (by omega) hb.1
   _<=999999999*999999999:=Int.mul_le_mul_of_nonneg_left (by omega) (by omega)
   _=999999998000000001:=by decide
theorem MulIn.step {x y:Nat->Int} {lb n i k:Nat} {o:Nat->Int} {on:Int} (h:MulIn x y lb n i k o on) (hx:0<=x i/\x i<1000000000) (hy:0<=y k/\y k<1000000000) (hk:k<lb) (hn:i+lb<=n) :
  (0<=on+(x i*y k+o (i+k))/\on+(x i*y k+o (i+k))<=999999999999999999) /\
  MulIn x y lb n i (k+1) (upd o (i+k) ((on+(x i*y k+o (i+k)))%1000000000)) ((on+(x i*y k+o (i+k)))/1000000000):=by
 have hb:=mul_bd hx hy;have hd:=h.dig (i+k) (by omega);have h0:=h.on0;have hs:=h.sum;refine⟨by omega,upd_Dig h.dig _ (by omega),by omega,?_,fun j hj hjn=>by rw[upd_ne o _ (by omega)];exact h.o j hj hjn⟩;rw[sumB_upd o _ (show i+k<n by omega),<- Nat.add_assoc,pw_succ,Int.natCast_mul]
 generalize hT:on+(x i*y k+o (i+k))=T
 have e1:T=1000000000*(T/1000000000)+T%1000000000:=by omega
 have e2:(T%1000000000-o (i+k))*(pw (i+k):Int)+T/1000000000*((pw (i+k):Int)*((1000000000:Nat):Int))=(T-o (i+k))*(pw (i+k):Int):=by
  have:T/1000000000*((pw (i+k):Int)*((1000000000:Nat):Int))=1000000000*(T/1000000000)*(pw (i+k):Int):=by
   rw[Int.mul_comm (pw (i+k):Int),<- Int.mul_assoc,Int.mul_comm (T/1000000000)];rfl
  rw[this,<- Int.add_mul]
  congr 1
  omega
 have e3:(T-o (i+k))*(pw (i+k):Int)=on*(pw (i+k):Int)+x i*y k*(pw (i+k):Int):=by
  rw[<- Int.add_mul,<- hT];congr 1;omega
 have e4:x i*sumB y (k+1)*(pw i:Int)=x i*sumB y k*(pw i:Int)+x i*y k*(pw (i+k):Int):=by
  rw[sumB,Int.mul_add,Int.add_mul,pw_add,Int.natCast_mul]
  congr 1
  rw[Int.mul_assoc,Int.mul_assoc,Int.mul_assoc,Int.mul_comm (pw k:Int)]
 omega
theorem MulIn.row {x y:Nat->Int} {lb n i:Nat} {o:Nat->Int} {on:Int} (h:MulIn x y lb n i lb o on) (hn:i+lb<n):MulRow x y lb n (i+1) (upd o (i+lb) on):=by
 have hs:=h.sum;have ho:=h.o (i+lb) zj hn;refine⟨upd_Dig h.dig _ h.on0,?_,fun j hj hjn=>by rw[upd_ne o _ (by omega)];exact h.o j (by omega) hjn⟩;rw[sumB_upd o _ hn,ho,Int.sub_zero,hs,sumB,Int.add_mul]
 congr 1
 rw[Int.mul_assoc,Int.mul_assoc,Int.mul_comm (sumB y lb)]
end Limb
namespace Mono
open Go.RowKit
theorem rdegree_any (a:Nat->Int) (w:World) (ha:Small a) :
  Calls Tryz.prog 107 #[mvf a] w fun e w'=>e=.returned (.int .i64 (degM a))/\Below w.heap.size w w':=by
 obtain⟨p0,q0⟩:=ha 0 (by omega);obtain⟨p1,q1⟩:=ha 1 (by omega);obtain⟨p2,q2⟩:=ha 2 (by omega);obtain⟨p3,q3⟩:=ha 3 (by omega);clear ha;go_enter Tryz.func107,Tryz.ntmps107;go_wp2;go_ret;exact⟨rfl,by go_grown⟩
end Mono
namespace Book
open Go.RowKit Go.Sort
theorem fillByte (b:Nat) (w:World) (h:w.cell? ⟨b,1,none⟩=some (.slice none 0 0)):Calls Tryz.prog 45 #[.pointer (some ⟨b,0,none⟩)] w fun e w'=>(∃ v,e=.returned v)/\w'=w:=by
 go_enter Tryz.func45,Tryz.ntmps45;go_wp2_with fail
 go_loopw [2] (fun i wr=>i=.int .i64 0/\wr=w) (fun _ _=>0)
 case atStart=>exact⟨rfl,rfl⟩
 case round =>
  obtain⟨rfl,rfl⟩:=hrel;go_wp2
  (try simp only[Exit.inBlock,Exit.then])
  refine bodyPost_end (results_none rfl _ _ _) rfl ?_;exact⟨⟨_,rfl⟩,rfl⟩
theorem growByte (b:Nat) (w:World) (h:w.cell? ⟨b,1,none⟩=some (.slice none 0 0)):Calls Tryz.prog 57 #[.pointer (some ⟨b,0,none⟩)] w fun e w'=>(∃ v,e=.returned v)/\w'=w:=by
 go_enter Tryz.func57,Tryz.ntmps57;go_wp2_with fail
 go_loopw [2] (fun i wr=>i=.int .i64 0/\wr=w) (fun _ _=>0)
 case atStart=>exact⟨rfl,rfl⟩
 case round =>
  obtain⟨rfl,rfl⟩:=hrel;go_wp2
  (try simp only[Exit.inBlock,Exit.then])
  refine bodyPost_end (results_none rfl _ _ _) rfl ?_;exact⟨⟨_,rfl⟩,rfl⟩
theorem lookByte (b:Nat) (w:World) (h:w.cell? ⟨b,1,none⟩=some (.slice none 0 0)):Calls Tryz.prog 69 #[.pointer (some ⟨b,0,none⟩)] w fun e w'=>e=.returned (.bool true)/\w'=w:=by
 go_enter Tryz.func69,Tryz.ntmps69;go_wp2_with fail
 go_loopw [3] (fun i wr=>i=.int .i64 0/\wr=w) (fun _ _=>0)
 case atStart=>exact⟨rfl,rfl⟩
 case round =>
  obtain⟨rfl,rfl⟩:=hrel;go_wp2;go_ret;exact⟨rfl,rfl⟩
theorem fillText (b:Nat) (w:World) (h:w.cell? ⟨b,3,none⟩=some (.slice none 0 0)):Calls Tryz.prog 47 #[.pointer (some ⟨b,0,none⟩)] w fun e w'=>(∃ v,e=.returned v)/\w'=w:=by
 go_enter Tryz.func47,Tryz.ntmps47;go_wp2_with fail
 go_loopw [2] (fun i wr=>i=.int .i64 0/\wr=w) (fun _ _=>0)
 case atStart=>exact⟨rfl,rfl⟩
 case round =>
  obtain⟨rfl,rfl⟩:=hrel;go_wp2
  (try simp only[Exit.inBlock,Exit.then])
  refine bodyPost_end (results_none rfl _ _ _) rfl ?_;exact⟨⟨_,rfl⟩,rfl⟩
theorem growText (b:Nat) (w:World) (h:w.cell? ⟨b,3,none⟩=some (.slice none 0 0)):Calls Tryz.prog 59 #[.pointer (some ⟨b,0,none⟩)] w fun e w'=>(∃ v,e=.returned v)/\w'=w:=by
 go_enter Tryz.func59,Tryz.ntmps59;go_wp2_with fail
 go_loopw [2] (fun i wr=>i=.int .i64 0/\wr=w) (fun _ _=>0)
 case atStart=>exact⟨rfl,rfl⟩
 case round =>
  obtain⟨rfl,rfl⟩:=hrel;go_wp2
  (try simp only[Exit.inBlock,Exit.then])
  refine bodyPost_end (results_none rfl _ _ _) rfl ?_;exact⟨⟨_,rfl⟩,rfl⟩
theorem lookText (b:Nat) (w:World) (h:w.cell? ⟨b,3,none⟩=some (.slice none 0 0)):Calls Tryz.prog 71 #[.pointer (some ⟨b,0,none⟩)] w fun e w'=>e=.returned (.bool true)/\w'=w:=by
 go_enter Tryz.func71,Tryz.ntmps71;go_wp2_with fail
 go_loopw [3] (fun i wr=>i=.int .i64 0/\wr=w) (fun _ _=>0)
 case atStart=>exact⟨rfl,rfl⟩
 case round =>
  obtain⟨rfl,rfl⟩:=hrel;go_wp2;go_ret;exact⟨rfl,rfl⟩
theorem fillToken (b:Nat) (w:World) (h:w.cell? ⟨b,4,none⟩=some (.slice none 0 0)):Calls Tryz.prog 48 #[.pointer (some ⟨b,0,none⟩)] w fun e w'=>(∃ v,e=.returned v)/\w'=w:=by
 go_enter Tryz.func48,Tryz.ntmps48;go_wp2_with fail
 go_loopw [2] (fun i wr=>i=.int .i64 0/\wr=w) (fun _ _=>0)
 case atStart=>exact⟨rfl,rfl⟩
 case round =>
  obtain⟨rfl,rfl⟩:=hrel;go_wp2
  (try simp only[Exit.inBlock,Exit.then])
  refine bodyPost_end (results_none rfl _ _ _) rfl ?_;exact⟨⟨_,rfl⟩,rfl⟩
theorem growToken (b:Nat) (w:World) (h:w.cell? ⟨b,4,none⟩=some (.slice none 0 0)):Calls Tryz.prog 60 #[.pointer (some ⟨b,0,none⟩)] w fun e w'=>(∃ v,e=.returned v)/\w'=w:=by
 go_enter Tryz.func60,Tryz.ntmps60;go_wp2_with fail
 go_loopw [2] (fun i wr=>i=.int .i64 0/\wr=w) (fun _ _=>0)
 case atStart=>exact⟨rfl,rfl⟩
 case round =>
  obtain⟨rfl,rfl⟩:=hrel;go_wp2
  (try simp only[Exit.inBlock,Exit.then])
  refine bodyPost_end (results_none rfl _ _ _) rfl ?_;exact⟨⟨_,rfl⟩,rfl⟩
theorem lookToken (b:Nat) (w:World) (h:w.cell? ⟨b,4,none⟩=some (.slice none 0 0)):Calls Tryz.prog 72 #[.pointer (some ⟨b,0,none⟩)] w fun e w'=>e=.returned (.bool true)/\w'=w:=by
 go_enter Tryz.func72,Tryz.ntmps72;go_wp2_with fail
 go_loopw [3] (fun i wr=>i=.int .i64 0/\wr=w) (fun _ _=>0)
 case atStart=>exact⟨rfl,rfl⟩
 case round =>
  obtain⟨rfl,rfl⟩:=hrel;go_wp2;go_ret;exact⟨rfl,rfl⟩
theorem fillNum (b:Nat) (w:World) (h:w.cell? ⟨b,5,none⟩=some (.slice none 0 0)):Calls Tryz.prog 49 #[.pointer (some ⟨b,0,none⟩)] w fun e w'=>(∃ v,e=.returned v)/\w'=w:=by
 go_enter Tryz.func49,Tryz.ntmps49;go_wp2_with fail
 go_loopw [2] (fun i wr=>i=.int .i64 0/\wr=w) (fun _ _=>0)
 case atStart=>exact⟨rfl,rfl⟩
 case round =>
  obtain⟨rfl,rfl⟩:=hrel;go_wp2
  (try simp only[Exit.inBlock,Exit.then])
  refine bodyPost_end (results_none rfl _ _ _) rfl ?_;exact⟨⟨_,rfl⟩,rfl⟩
theorem growNum (b:Nat) (w:World) (h:w.cell? ⟨b,5,none⟩=some (.slice none 0 0)):Calls Tryz.prog 61 #[.pointer (some ⟨b,0,none⟩)] w fun e w'=>(∃ v,e=.returned v)/\w'=w:=by
 go_enter Tryz.func61,Tryz.ntmps61;go_wp2_with fail
 go_loopw [2] (fun i wr=>i=.int .i64 0/\wr=w) (fun _ _=>0)
 case atStart=>exact⟨rfl,rfl⟩
 case round =>
  obtain⟨rfl,rfl⟩:=hrel;go_wp2
  (try simp only[Exit.inBlock,Exit.then])
  refine bodyPost_end (results_none rfl _ _ _) rfl ?_;exact⟨⟨_,rfl⟩,rfl⟩
theorem lookNum (b:Nat) (w:World) (h:w.cell? ⟨b,5,none⟩=some (.slice none 0 0)):Calls Tryz.prog 73 #[.pointer (some ⟨b,0,none⟩)] w fun e w'=>e=.returned (.bool true)/\w'=w:=by
 go_enter Tryz.func73,Tryz.ntmps73;go_wp2_with fail
 go_loopw [3] (fun i wr=>i=.int .i64 0/\wr=w) (fun _ _=>0)
 case atStart=>exact⟨rfl,rfl⟩
 case round =>
  obtain⟨rfl,rfl⟩:=hrel;go_wp2;go_ret;exact⟨rfl,rfl⟩
theorem fillFactor (b:Nat) (w:World) (h:w.cell? ⟨b,7,none⟩=some (.slice none 0 0)):Calls Tryz.prog 51 #[.pointer (some ⟨b,0,none⟩)] w fun e w'=>(∃ v,e=.returned v)/\w'=w:=by
 go_enter Tryz.func51,Tryz.ntmps51;go_wp2_with fail
 go_loopw [2] (fun i wr=>i=.int .i64 0/\wr=w) (fun _ _=>0)
 case atStart=>exact⟨rfl,rfl⟩
 case round =>
  obtain⟨rfl,rfl⟩:=hrel;go_wp2
  (try simp only[Exit.inBlock,Exit.then])
  refine bodyPost_end (results_none rfl _ _ _) rfl ?_;exact⟨⟨_,rfl⟩,rfl⟩
theorem growFactor (b:Nat) (w:World) (h:w.cell? ⟨b,7,none⟩=some (.slice none 0 0)):Calls Tryz.prog 63 #[.pointer (some ⟨b,0,none⟩)] w fun e w'=>(∃ v,e=.returned v)/\w'=w:=by
 go_enter Tryz.func63,Tryz.ntmps63;go_wp2_with fail
 go_loopw [2] (fun i wr=>i=.int .i64 0/\wr=w) (fun _ _=>0)
 case atStart=>exact⟨rfl,rfl⟩
 case round =>
  obtain⟨rfl,rfl⟩:=hrel;go_wp2
  (try simp only[Exit.inBlock,Exit.then])
  refine bodyPost_end (results_none rfl _ _ _) rfl ?_;exact⟨⟨_,rfl⟩,rfl⟩
theorem lookFactor (b:Nat) (w:World) (h:w.cell? ⟨b,7,none⟩=some (.slice none 0 0)):Calls Tryz.prog 75 #[.pointer (some ⟨b,0,none⟩)] w fun e w'=>e=.returned (.bool true)/\w'=w:=by
 go_enter Tryz.func75,Tryz.ntmps75;go_wp2_with fail
 go_loopw [3] (fun i wr=>i=.int .i64 0/\wr=w) (fun _ _=>0)
 case atStart=>exact⟨rfl,rfl⟩
 case round =>
  obtain⟨rfl,rfl⟩:=hrel;go_wp2;go_ret;exact⟨rfl,rfl⟩
theorem fillNode (b:Nat) (w:World) (h:w.cell? ⟨b,8,none⟩=some (.slice none 0 0)):Calls Tryz.prog 52 #[.pointer (some ⟨b,0,none⟩)] w fun e w'=>(∃ v,e=.returned v)/\w'=w:=by
 go_enter Tryz.func52,Tryz.ntmps52;go_wp2_with fail
 go_loopw [2] (fun i wr=>i=.int .i64 0/\wr=w) (fun _ _=>0)
 case atStart=>exact⟨rfl,rfl⟩
 case round =>
  obtain⟨rfl,rfl⟩:=hrel;go_wp2
  (try simp only[Exit.inBlock,Exit.then])
  refine bodyPost_end (results_none rfl _ _ _) rfl ?_;exact⟨⟨_,rfl⟩,rfl⟩
theorem growNode (b:Nat) (w:World) (h:w.cell? ⟨b,8,none⟩=some (.slice none 0 0)):Calls Tryz.prog 64 #[.pointer (some ⟨b,0,none⟩)] w fun e w'=>(∃ v,e=.returned v)/\w'=w:=by
 go_enter Tryz.func64,Tryz.ntmps64;go_wp2_with fail
 go_loopw [2] (fun i wr=>i=.int .i64 0/\wr=w) (fun _ _=>0)
 case atStart=>exact⟨rfl,rfl⟩
 case round =>
  obtain⟨rfl,rfl⟩:=hrel;go_wp2
  (try simp only[Exit.inBlock,Exit.then])
  refine bodyPost_end (results_none rfl _ _ _) rfl ?_;exact⟨⟨_,rfl⟩,rfl⟩
theorem lookNode (b:Nat) (w:World) (h:w.cell? ⟨b,8,none⟩=some (.slice none 0 0)):Calls Tryz.prog 76 #[.pointer (some ⟨b,0,none⟩)] w fun e w'=>e=.returned (.bool true)/\w'=w:=by
 go_enter Tryz.func76,Tryz.ntmps76;go_wp2_with fail
 go_loopw [3] (fun i wr=>i=.int .i64 0/\wr=w) (fun _ _=>0)
 case atStart=>exact⟨rfl,rfl⟩
 case round =>
  obtain⟨rfl,rfl⟩:=hrel;go_wp2;go_ret;exact⟨rfl,rfl⟩
theorem fillFunc (b:Nat) (w:World) (h:w.cell? ⟨b,9,none⟩=some (.slice none 0 0)):Calls Tryz.prog 53 #[.pointer (some ⟨b,0,none⟩)] w fun e w'=>(∃ v,e=.returned v)/\w'=w:=by
 go_enter Tryz.func53,Tryz.ntmps53;go_wp2_with fail
 go_loopw [2] (fun i wr=>i=.int .i64 0/\wr=w) (fun _ _=>0)
 case atStart=>exact⟨rfl,rfl⟩
 case round =>
  obtain⟨rfl,rfl⟩:=hrel;go_wp2
  (try simp only[Exit.inBlock,Exit.then])
  refine bodyPost_end (results_none rfl _ _ _) rfl ?_;exact⟨⟨_,rfl⟩,rfl⟩
theorem growFunc (b:Nat) (w:World) (h:w.cell? ⟨b,9,none⟩=some (.slice none 0 0)):Calls Tryz.prog 65 #[.pointer (some ⟨b,0,none⟩)] w fun e w'=>(∃ v,e=.returned v)/\w'=w:=by
 go_enter Tryz.func65,Tryz.ntmps65;go_wp2_with fail
 go_loopw [2] (fun i wr=>i=.int .i64 0/\wr=w) (fun _ _=>0)
 case atStart=>exact⟨rfl,rfl⟩
 case round =>
  obtain⟨rfl,rfl⟩:=hrel;go_wp2
  (try simp only[Exit.inBlock,Exit.then])
  refine bodyPost_end (results_none rfl _ _ _) rfl ?_;exact⟨⟨_,rfl⟩,rfl⟩
theorem lookFunc (b:Nat) (w:World) (h:w.cell? ⟨b,9,none⟩=some (.slice none 0 0)):Calls Tryz.prog 77 #[.pointer (some ⟨b,0,none⟩)] w fun e w'=>e=.returned (.bool true)/\w'=w:=by
 go_enter Tryz.func77,Tryz.ntmps77;go_wp2_with fail
 go_loopw [3] (fun i wr=>i=.int .i64 0/\wr=w) (fun _ _=>0)
 case atStart=>exact⟨rfl,rfl⟩
 case round =>
  obtain⟨rfl,rfl⟩:=hrel;go_wp2;go_ret;exact⟨rfl,rfl⟩
theorem fillValue (b:Nat) (w:World) (h:w.cell? ⟨b,10,none⟩=some (.slice none 0 0)):Calls Tryz.prog 54 #[.pointer (some ⟨b,0,none⟩)] w fun e w'=>(∃ v,e=.returned v)/\w'=w:=by
 go_enter Tryz.func54,Tryz.ntmps54;go_wp2_with fail
 go_loopw [2] (fun i wr=>i=.int .i64 0/\wr=w) (fun _ _=>0)
 case atStart=>exact⟨rfl,rfl⟩
 case round =>
  obtain⟨rfl,rfl⟩:=hrel;go_wp2
  (try simp only[Exit.inBlock,Exit.then])
  refine bodyPost_end (results_none rfl _ _ _) rfl ?_;exact⟨⟨_,rfl⟩,rfl⟩
theorem growValue (b:Nat) (w:World) (h:w.cell? ⟨b,10,none⟩=some (.slice none 0 0)):Calls Tryz.prog 66 #[.pointer (some ⟨b,0,none⟩)] w fun e w'=>(∃ v,e=.returned v)/\w'=w:=by
 go_enter Tryz.func66,Tryz.ntmps66;go_wp2_with fail
 go_loopw [2] (fun i wr=>i=.int .i64 0/\wr=w) (fun _ _=>0)
 case atStart=>exact⟨rfl,rfl⟩
 case round =>
  obtain⟨rfl,rfl⟩:=hrel;go_wp2
  (try simp only[Exit.inBlock,Exit.then])
  refine bodyPost_end (results_none rfl _ _ _) rfl ?_;exact⟨⟨_,rfl⟩,rfl⟩
theorem lookValue (b:Nat) (w:World) (h:w.cell? ⟨b,10,none⟩=some (.slice none 0 0)):Calls Tryz.prog 78 #[.pointer (some ⟨b,0,none⟩)] w fun e w'=>e=.returned (.bool true)/\w'=w:=by
 go_enter Tryz.func78,Tryz.ntmps78;go_wp2_with fail
 go_loopw [3] (fun i wr=>i=.int .i64 0/\wr=w) (fun _ _=>0)
 case atStart=>exact⟨rfl,rfl⟩
 case round =>
  obtain⟨rfl,rfl⟩:=hrel;go_wp2;go_ret;exact⟨rfl,rfl⟩
theorem fillInstr (b:Nat) (w:World) (h:w.cell? ⟨b,11,none⟩=some (.slice none 0 0)):Calls Tryz.prog 55 #[.pointer (some ⟨b,0,none⟩)] w fun e w'=>(∃ v,e=.returned v)/\w'=w:=by
 go_enter Tryz.func55,Tryz.ntmps55;go_wp2_with fail
 go_loopw [2] (fun i wr=>i=.int .i64 0/\wr=w) (fun _ _=>0)
 case atStart=>exact⟨rfl,rfl⟩
 case round =>
  obtain⟨rfl,rfl⟩:=hrel;go_wp2
  (try simp only[Exit.inBlock,Exit.then])
  refine bodyPost_end (results_none rfl _ _ _) rfl ?_;exact⟨⟨_,rfl⟩,rfl⟩
theorem growInstr (b:Nat) (w:World) (h:w.cell? ⟨b,11,none⟩=some (.slice none 0 0)):Calls Tryz.prog 67 #[.pointer (some ⟨b,0,none⟩)] w fun e w'=>(∃ v,e=.returned v)/\w'=w:=by
 go_enter Tryz.func67,Tryz.ntmps67;go_wp2_with fail
 go_loopw [2] (fun i wr=>i=.int .i64 0/\wr=w) (fun _ _=>0)
 case atStart=>exact⟨rfl,rfl⟩
 case round =>
  obtain⟨rfl,rfl⟩:=hrel;go_wp2
  (try simp only[Exit.inBlock,Exit.then])
  refine bodyPost_end (results_none rfl _ _ _) rfl ?_;exact⟨⟨_,rfl⟩,rfl⟩
theorem lookInstr (b:Nat) (w:World) (h:w.cell? ⟨b,11,none⟩=some (.slice none 0 0)):Calls Tryz.prog 79 #[.pointer (some ⟨b,0,none⟩)] w fun e w'=>e=.returned (.bool true)/\w'=w:=by
 go_enter Tryz.func79,Tryz.ntmps79;go_wp2_with fail
 go_loopw [3] (fun i wr=>i=.int .i64 0/\wr=w) (fun _ _=>0)
 case atStart=>exact⟨rfl,rfl⟩
 case round =>
  obtain⟨rfl,rfl⟩:=hrel;go_wp2;go_ret;exact⟨rfl,rfl⟩
theorem fillChunk (b:Nat) (w:World) (h:w.cell? ⟨b,12,none⟩=some (.slice none 0 0)):Calls Tryz.prog 56 #[.pointer (some ⟨b,0,none⟩)] w fun e w'=>(∃ v,e=.returned v)/\w'=w:=by
 go_enter Tryz.func56,Tryz.ntmps56;go_wp2_with fail
 go_loopw [2] (fun i wr=>i=.int .i64 0/\wr=w) (fun _ _=>0)
 case atStart=>exact⟨rfl,rfl⟩
 case round =>
  obtain⟨rfl,rfl⟩:=hrel;go_wp2
  (try simp only[Exit.inBlock,Exit.then])
  refine bodyPost_end (results_none rfl _ _ _) rfl ?_;exact⟨⟨_,rfl⟩,rfl⟩
theorem growChunk (b:Nat) (w:World) (h:w.cell? ⟨b,12,none⟩=some (.slice none 0 0)):Calls Tryz.prog 68 #[.pointer (some ⟨b,0,none⟩)] w fun e w'=>(∃ v,e=.returned v)/\w'=w:=by
 go_enter Tryz.func68,Tryz.ntmps68;go_wp2_with fail
 go_loopw [2] (fun i wr=>i=.int .i64 0/\wr=w) (fun _ _=>0)
 case atStart=>exact⟨rfl,rfl⟩
 case round =>
  obtain⟨rfl,rfl⟩:=hrel;go_wp2
  (try simp only[Exit.inBlock,Exit.then])
  refine bodyPost_end (results_none rfl _ _ _) rfl ?_;exact⟨⟨_,rfl⟩,rfl⟩
theorem lookChunk (b:Nat) (w:World) (h:w.cell? ⟨b,12,none⟩=some (.slice none 0 0)):Calls Tryz.prog 80 #[.pointer (some ⟨b,0,none⟩)] w fun e w'=>e=.returned (.bool true)/\w'=w:=by
 go_enter Tryz.func80,Tryz.ntmps80;go_wp2_with fail
 go_loopw [3] (fun i wr=>i=.int .i64 0/\wr=w) (fun _ _=>0)
 case atStart=>exact⟨rfl,rfl⟩
 case round =>
  obtain⟨rfl,rfl⟩:=hrel;go_wp2;go_ret;exact⟨rfl,rfl⟩
end Book
namespace Limb
open Go.RowKit Go.Sort
theorem cmp32_any (x y:Int) (w:World) :
  Calls Tryz.prog 238 #[.int .u32 x,.int .u32 y] w fun e w'=>e=.returned (.int .i64 (cmpZ x y))/\w'=w:=by
 rcases Int.lt_trichotomy x y with h | h | h
 ·have E:=qh (cmpZ_lt h);go_enter Tryz.func238,Tryz.ntmps238;go_wp2;go_ret;exact⟨by rw[E.o];rfl,rfl⟩
 ·have E:=qh (cmpZ_eq h);subst h;go_enter Tryz.func238,Tryz.ntmps238;go_wp2;go_ret;exact⟨by rw[E.o];rfl,rfl⟩
 ·have E:=qh (cmpZ_gt h);go_enter Tryz.func238,Tryz.ntmps238;go_wp2;go_ret;exact⟨by rw[E.o];rfl,rfl⟩
theorem cmp64_any (x y:Int) (w:World) :
  Calls Tryz.prog 198 #[.int .i64 x,.int .i64 y] w fun e w'=>e=.returned (.int .i64 (cmpZ x y))/\w'=w:=by
 rcases Int.lt_trichotomy x y with h | h | h
 ·have E:=qh (cmpZ_lt h);go_enter Tryz.func198,Tryz.ntmps198;go_wp2;go_ret;exact⟨by rw[E.o];rfl,rfl⟩
 ·have E:=qh (cmpZ_eq h);subst h;go_enter Tryz.func198,Tryz.ntmps198;go_wp2;go_ret;exact⟨by rw[E.o];rfl,rfl⟩
 ·have E:=qh (cmpZ_gt h);go_enter Tryz.func198,Tryz.ntmps198;go_wp2;go_ret;exact⟨by rw[E.o];rfl,rfl⟩
theorem part_any (a:Option Addr) (n cap:Nat) (o:Nat->Int) (i:Nat) (w:World) (h:Rd w a n o) (hn:n<=1000000000) (hi:i<=1000000000) :
  Calls Tryz.prog 209 #[.slice a n cap,.int .i64 i] w fun e w'=>e=.returned (.int .i64 (part o n i))/\w'=w:=by
 by_cases hlt:i<n
 ·have E:=qh (show part o n i=o i by unfold part;rw[if_pos hlt]);obtain⟨b,off,rfl,hc⟩:=h.cells (by omega);have c1:=hc i hlt;have r1:=h.rng i hlt;have e1:=IntWalk.i64_in (o i) (by omega);clear hc h;go_enter Tryz.func209,Tryz.ntmps209;go_wp2;go_ret;exact⟨by rw[E.o];rfl,rfl⟩
 ·have E:=qh (show part o n i=0 by unfold part;rw[if_neg hlt]);clear h;go_enter Tryz.func209,Tryz.ntmps209;go_wp2;go_ret;exact⟨by rw[E.o];rfl,rfl⟩
end Limb
namespace Limb
theorem div_step {by' Q rest o:Int} (h0:0<by') (hr:0<=rest/\rest<by'):(o+1000000000*(by' * Q+rest))/by'=(rest*1000000000+o)/by' + 1000000000*Q/\(o+1000000000*(by' * Q+rest))%by'=(rest*1000000000+o)%by':=by
 have e:o+1000000000*(by' * Q+rest)=(rest*1000000000+o)+by' * (1000000000*Q):=by
  have:by' * (1000000000*Q)=1000000000*(by' * Q):=by rw[<- Int.mul_assoc,Int.mul_comm by',Int.mul_assoc]
  rw[this,Int.mul_add];omega
 rw[e];exact⟨Int.add_mul_ediv_left _ _ (by omega),Int.add_mul_emod_self_left _ _ _⟩
theorem part_bd {by' rest o:Int} (h0:0<by') (hr:0<=rest/\rest<by') (ho:0<=o/\o<1000000000):0<=(rest*1000000000+o)/by'/\(rest*1000000000+o)/by' < 1000000000:=by
 refine⟨Int.ediv_nonneg (by omega) (by omega),Int.ediv_lt_of_lt_mul h0 ?_⟩;have:rest*1000000000<=(by' - 1)*1000000000:=Int.mul_le_mul_of_nonneg_right (by omega) (by omega);rw[Int.mul_comm];omega
structure ShortIn (o:Nat->Int) (n:Nat) (by':Int) (i:Nat) (p:Nat->Int) (rest:Int):Prop where
 quo:sumB (fun k=>p (i+k)) (n-i)=sumB (fun k=>o (i+k)) (n-i)/by'
 rst:rest=sumB (fun k=>o (i+k)) (n-i)%by'
 dig:Dig p n
theorem ShortIn.start (o:Nat->Int) (n:Nat) (by':Int):ShortIn o n by' n (fun _=>0) 0:=by
 refine⟨?_,?_,fun i _=>⟨by omega,by omega⟩⟩
 ·rw[Nat.sub_self,sumB,sumB];simp
 ·rw[Nat.sub_self,sumB];simp
theorem ShortIn.bd {o p:Nat->Int} {n i:Nat} {by' rest:Int} (h:ShortIn o n by' i p rest) (h0:0<by'):0<=rest/\rest<by':=by
 rw[h.rst];exact⟨Int.emod_nonneg _ (by omega),Int.emod_lt_of_pos _ h0⟩
theorem ShortIn.step {o p:Nat->Int} {n i:Nat} {by' rest:Int} (h:ShortIn o n by' (i+1) p rest) (h0:0<by') (hd:Dig o n) (hi:i<n):ShortIn o n by' i (upd p i ((rest*1000000000+o i)/by')) ((rest*1000000000+o i)%by'):=by
 have hb:=h.bd h0
 have hs:∀ f:Nat->Int,sumB (fun k=>f (i+k)) (n-i)=f i+1000000000*sumB (fun k=>f (i+1+k)) (n-(i+1)):=by
  intro f;rw[show n-i=(n-(i+1))+1 by omega,sumB_shift]
  have e:(fun k=>f (i+(k+1)))=fun k=>f (i+1+k):=by funext k;rw[show i+(k+1)=i+1+k by omega]
  rw[e];rfl
 have hq:=h.quo;have hr:=h.rst
 generalize hA:sumB (fun k=>o (i+1+k)) (n-(i+1))=A at hq hr
 have hA2:A=by' * (A/by')+rest:=by rw[hr];exact(Int.mul_ediv_add_emod A by').symm
 obtain⟨d1,d2⟩:=div_step (o:=o i) (Q:=A/by') h0 hb;refine⟨?_,?_,upd_Dig h.dig i (part_bd h0 hb (hd i hi))⟩
 ·rw[hs o,hs (upd p i _),hA]
  have e:(fun k=>upd p i ((rest*1000000000+o i)/by') (i+1+k))=fun k=>p (i+1+k):=by funext k;exact upd_ne _ _ (by omega)
  rw[e,hq,upd_same]
  conv=>rhs;rw[hA2]
  rw[d1]
 ·rw[hs o,hA]
  conv=>rhs;rw[hA2]
  rw[d2]
theorem ShortIn.done {o p:Nat->Int} {n:Nat} {by' rest:Int} (h:ShortIn o n by' 0 p rest):sumB p n=sumB o n/by'/\rest=sumB o n%by':=by
 have e:∀ f:Nat->Int,(fun k=>f (0+k))=f:=fun f=>by funext k;rw[Nat.zero_add]
 have h1:=h.quo;have h2:=h.rst;rw[e,e] at h1;rw[e] at h2;exact⟨h1,h2⟩
end Limb
namespace Mono
open Go.RowKit Go.Sort
theorem rows4 {W:World} {b:Nat} {t:TypeId} {f:Nat->Value} (h:W.rowIs b t 4 f) :
  (∀ d os,(grow (redrawn W d) os).cell? ⟨b,0,none⟩=some (f 0))/\(∀ d os,(grow (redrawn W d) os).cell? ⟨b,1,none⟩=some (f 1)) /\
  (∀ d os,(grow (redrawn W d) os).cell? ⟨b,2,none⟩=some (f 2))/\(∀ d os,(grow (redrawn W d) os).cell? ⟨b,3,none⟩=some (f 3)) :=
 ⟨cell_regrown (h.cell (by omega)),cell_regrown (h.cell (by omega)),cell_regrown (h.cell (by omega)),cell_regrown (h.cell (by omega))⟩
theorem rowc {W:World} {b:Nat} {t:TypeId} {f:Nat->Value} (h:W.rowIs b t 4 f) :
  W.cell? ⟨b,0,none⟩=some (f 0)/\W.cell? ⟨b,1,none⟩=some (f 1)/\W.cell? ⟨b,2,none⟩=some (f 2)/\W.cell? ⟨b,3,none⟩=some (f 3) :=
 ⟨h.cell (by omega),h.cell (by omega),h.cell (by omega),h.cell (by omega)⟩
theorem rowBelow {B b:Nat} {W w1:World} {t:TypeId} {f:Nat->Value} (h:W.rowIs b t 4 f) (hb:Below B W w1) (hlt:b<B):w1.rowIs b t 4 f:=h.of_block (hb.block _ hlt)
theorem rowNew (W:World) (t:TypeId) (a:Nat->Int):(W.alloc (.cells (arr4 a) t)).rowIs W.heap.size t 4 (cell a):=W.rowIs_alloc (arr4 a) t (cell a) (four a)
theorem boxes (w:World) (t:TypeId) (a b:Nat->Int):((w.alloc (.cells (arr4 a) t)).alloc (.cells (arr4 b) t)).rowIs w.heap.size t 4 (cell a)/\((w.alloc (.cells (arr4 a) t)).alloc (.cells (arr4 b) t)).rowIs (w.heap.size+1) t 4 (cell b):=by
 refine⟨(rowNew w t a).alloc _,?_⟩;have h:=rowNew (w.alloc (.cells (arr4 a) t)) t b;rw[World.size_alloc] at h;exact h
theorem eqIn16 (d:Nat) (a b:Int) (w:World):(Op.equalIn (d+1) 33 (.int .u16 a) (.int .u16 b)).run Tryz.prog w=.ok (a==b) w :=
 run_equalIn_int w d 33 .u16 .u16 a b Tryz.underlying33
theorem part0 (x0 x1 x2 x3:Int) (w:World):(Go.part 33 #[Value.int .u16 x0,.int .u16 x1,.int .u16 x2,.int .u16 x3] 0).run Tryz.prog w=.ok (.int .u16 x0) w:=by kernel_rfl
theorem part1 (x0 x1 x2 x3:Int) (w:World):(Go.part 33 #[Value.int .u16 x0,.int .u16 x1,.int .u16 x2,.int .u16 x3] 1).run Tryz.prog w=.ok (.int .u16 x1) w:=by kernel_rfl
theorem part2 (x0 x1 x2 x3:Int) (w:World):(Go.part 33 #[Value.int .u16 x0,.int .u16 x1,.int .u16 x2,.int .u16 x3] 2).run Tryz.prog w=.ok (.int .u16 x2) w:=by kernel_rfl
theorem part3 (x0 x1 x2 x3:Int) (w:World):(Go.part 33 #[Value.int .u16 x0,.int .u16 x1,.int .u16 x2,.int .u16 x3] 3).run Tryz.prog w=.ok (.int .u16 x3) w:=by kernel_rfl
theorem eqIn4 (d:Nat) (x0 x1 x2 x3 y0 y1 y2 y3:Int) (w:World):(Op.equalIn (d+2) 35 (mv x0 x1 x2 x3) (mv y0 y1 y2 y3)).run Tryz.prog w=.ok (x0==y0&&(x1==y1&&(x2==y2&&x3==y3))) w:=by
 have hs:∀ w,(sizeOf 33).run Tryz.prog w=.ok 1 w:=fun _=>by kernel_rfl
 rw[Op.equalIn];simp only[Sem.run_bind,run_underlying Tryz.underlying35,Result.andThen_ok,hs];simp only[Std.Legacy.Range.forIn_eq_forIn_range',Std.Legacy.Range.size,Nat.sub_zero,Nat.add_sub_cancel,Nat.div_one,List.range'_succ,List.range'_zero,List.forIn_cons,List.forIn_nil];simp only[Sem.run_bind,Nat.mul_one,Nat.zero_add,Nat.reduceAdd,part0,eqIn16,Result.andThen_ok]
 by_cases h0:x0=y0 <;> by_cases h1:x1=y1 <;> by_cases h2:x2=y2 <;> by_cases h3:x3=y3 <;> simp[h0,h1,h2,h3,Sem.run_bind,part1,part2,part3,eqIn16]
@[go_sem] theorem run_eq4 (x0 x1 x2 x3 y0 y1 y2 y3:Int) (w:World):(Op.equalIn 10000 35 (mv x0 x1 x2 x3) (mv y0 y1 y2 y3)).run Tryz.prog w=.ok (x0==y0&&(x1==y1&&(x2==y2&&x3==y3))) w :=
 eqIn4 9998 x0 x1 x2 x3 y0 y1 y2 y3 w
end Mono
namespace Limb
open Go.RowKit Go.Sort
theorem amounts_any (x y:Nat) (a b:Option Addr) (ca cb:Nat) (w:World) (ha:Rd w a (lenB x) (dgi x)) (hb:Rd w b (lenB y) (dgi y)) (hx:lenB x<=1000000000) (hy:lenB y<=1000000000) :
  Calls Tryz.prog 206 #[.slice a (lenB x) ca,.slice b (lenB y) cb] w fun e w'=>e=.returned (.int .i64 (cmpZ x y))/\∃ m,w'=w.drewN m:=by
 rcases Nat.lt_trichotomy (lenB x) (lenB y) with h | h | h
 ·have E:=qh (show cmpZ x y = -1 from cmpZ_lt (by have:=cmp_len h;omega));have E2:=qh (show cmpZ (lenB x:Int) (lenB y) = -1 from cmpZ_lt (by omega));go_enter Tryz.func206,Tryz.ntmps206;go_wp2_with fail
  refine(cmp64_any _ _ _).mono ?_;rintro e w' ⟨rfl,hw⟩;subst w';rw[E2.o];go_wp2;go_ret;exact⟨by rw[E.o];rfl,0,rfl⟩
 ·obtain⟨k0,hD⟩:=topDiff_any (dgi x) (dgi y) (lenB x);have hC:=topDiff_cmp (dgi_Dig x _) (dgi_Dig y _) hD;rw[sumB_dgi,show sumB (dgi y) (lenB x)=y by rw[h];exact sumB_dgi y] at hC;have E:=qh hC;have E2:=qh (show cmpZ (lenB x:Int) (lenB y)=0 from cmpZ_eq (by omega));obtain⟨hk0,heq,hne⟩:=hD;have EQ:=qh heq;have NE:=qh hne;have HL:=qh h;clear hC heq hne h;go_enter Tryz.func206,Tryz.ntmps206;go_wp2_with fail
  refine(cmp64_any _ _ _).mono ?_;rintro e w' ⟨rfl,hw⟩;subst w';rw[E2.o];go_wp2_with fail
  go_loopw [6] (fun i wr=>∃ j:Nat,k0<=j/\j<=lenB x/\i=.int .i64 ((j:Int)-1)/\∃ m,wr=w.drewN m) (fun i _=>(1+intOf i).toNat)
  case atStart=>exact⟨lenB x,hk0,zj,rfl,0,rfl⟩
  case round =>
   obtain⟨j,hj,hjn,rfl,m0,rfl⟩:=hrel;by_cases hj0:j=0
   ·subst hj0;have Z:=qh (show cmpZ x y=0 by rw[E.o,if_pos (by omega)]);rw[show(((0:Nat):Int)-1) = -1 from rfl];go_wp2;go_ret;exact⟨by rw[Z.o];rfl,m0,rfl⟩
   ·obtain⟨q,rfl⟩:∃ q,j=q+1:=⟨j-1,by omega⟩;rw[show(((q+1:Nat):Int)-1)=(q:Int) by omega];obtain⟨b1,o1,rfl,hc1⟩:=ha.cells (by omega);obtain⟨b2,o2,rfl,hc2⟩:=hb.cells (by have:=HL.o;omega);have c1:=hc1 q (by omega);have c2:=hc2 q (by have:=HL.o;omega)
    have lx:q<lenB x:=by omega
    have ly:q<lenB y:=by have:=HL.o;omega
    clear hc1 hc2 ha hb;by_cases hlk:k0<=q
    ·have hne:(dgi x q != dgi y q)=false:=by rw[EQ.o q hlk (by omega)];simp
     go_wp2;go_quiet (fail);go_wp2;go_roundw
     case rel=>exact⟨q,hlk,by omega,rfl,_,rfl⟩
     case measure=>simp[intOf];omega
    ·have hkq:k0=q+1:=by omega
     have hnn:dgi x q≠dgi y q:=by have:=NE.o (by omega);rw[hkq] at this;simpa using this
     have hne:(dgi x q != dgi y q)=true:=by simpa using hnn
     have Z:=qh (show cmpZ x y=cmpZ (dgi x q) (dgi y q) by rw[E.o,if_neg (by omega),hkq];rfl);clear hkq hnn;go_wp2;go_quiet (fail);go_wp2;go_quiet (exact(cmp32_any (dgi x q) (dgi y q) _).mono fun e w'' ⟨he,hw⟩=>⟨he,_,hw⟩);go_wp2;go_ret;exact⟨by rw[Z.o];rfl,_,by rw[World.drewN_drewN,World.drewN_drewN]⟩
 ·have E:=qh (show cmpZ x y=1 from cmpZ_gt (by have:=cmp_len h;omega));have E2:=qh (show cmpZ (lenB x:Int) (lenB y)=1 from cmpZ_gt (by omega));go_enter Tryz.func206,Tryz.ntmps206;go_wp2_with fail
  refine(cmp64_any _ _ _).mono ?_;rintro e w' ⟨rfl,hw⟩;subst w';rw[E2.o];go_wp2;go_ret;exact⟨by rw[E.o];rfl,0,rfl⟩
end Limb
namespace Limb
def splice (o:Nat->Int) (i m:Nat) (r:Nat->Int):Nat->Int:=fun k=>if i<=k/\k<i+m then r (k-i) else o k
theorem splice_in {o r:Nat->Int} {i m k:Nat} (h:k<m):splice o i m r (i+k)=r k:=by
 unfold splice;rw[if_pos ⟨by omega,by omega⟩,Nat.add_sub_cancel_left]
theorem splice_out {o r:Nat->Int} {i m k:Nat} (h:k<i\/i+m<=k):splice o i m r k=o k:=by
 unfold splice;rw[if_neg (by omega)]
theorem splice_Dig {o r:Nat->Int} {i m L:Nat} (ho:Dig o L) (hr:Dig r m):Dig (splice o i m r) L:=by
 intro k hk;by_cases h:i<=k/\k<i+m
 ·obtain⟨j,rfl⟩:∃ j,k=i+j:=⟨k-i,by omega⟩;rw[splice_in (by omega)];exact hr j (by omega)
 ·rw[splice_out (by omega)];exact ho k hk
structure DivI (X V:Int) (n L M i:Nat) (up qp:Nat->Int):Prop where
 udig:Dig up L
 qdig:Dig qp M
 qz:∀ k,k<i->qp k=0
 bal:X=V*((pw i:Int)*sumB (fun k=>qp (i+k)) (M-i))+sumB up L
 lt:sumB up L<V*(pw i:Int)
def headV (up:Nat->Int) (n i:Nat):Int:=sumB (fun k=>up (i+k)) (n+1)
theorem mul_lt_of {a b c:Int} (hc:0<c) (h:c*a<c*b):a<b:=Int.lt_of_mul_lt_mul_left h (by omega)
theorem DivI.head {X V:Int} {n L M i:Nat} {up qp:Nat->Int} (D:DivI X V n L M (i+1) up qp) (hi:i<M) (hL:M+n=L) (hV:V<(pw n:Int)) (hV0:0<V) :
  0<=headV up n i/\headV up n i<V*1000000000/\sumB up L=sumB up i+(pw i:Int)*headV up n i/\sumB (fun k=>up (i+(n+1)+k)) (L-i-(n+1))=0:=by
 have hpi:(0:Int)<(pw i:Int):=by have:=pw_pos i;omega
 have hpn:(0:Int)<(pw (n+1):Int):=by have:=pw_pos (n+1);omega
 have e1:sumB up L=sumB up i+(pw i:Int)*sumB (fun k=>up (i+k)) (L-i):=by
  have h:=sumB_add up i (L-i);rwa [show i+(L-i)=L by omega] at h
 have e2:sumB (fun k=>up (i+k)) (L-i)=headV up n i+(pw (n+1):Int)*sumB (fun k=>up (i+(n+1)+k)) (L-i-(n+1)):=by
  have h:=sumB_add (fun k=>up (i+k)) (n+1) (L-i-(n+1));rw[show n+1+(L-i-(n+1))=L-i by omega] at h;rw[h]
  have:(fun k=>up (i+(n+1+k)))=fun k=>up (i+(n+1)+k):=by funext k;rw[<- Nat.add_assoc]
  rw[this];rfl
 have b1:=(sumB_bd (o:=up) (n:=i) fun k hk=>D.udig k (by omega));have b2:=(sumB_bd (o:=fun k=>up (i+k)) (n:=n+1) fun k hk=>D.udig (i+k) (by omega));have b3:=(sumB_bd (o:=fun k=>up (i+(n+1)+k)) (n:=L-i-(n+1)) fun k hk=>D.udig _ (by omega));have h0:0<=headV up n i:=b2.1
 generalize hs:sumB (fun k=>up (i+(n+1)+k)) (L-i-(n+1))=s at e2 b3
 generalize ht:sumB (fun k=>up (i+k)) (L-i)=t at e1 e2
 have hlt:=D.lt;rw[e1,pw_succ,Int.natCast_mul] at hlt
 have ht2:t<V*1000000000:=by
  refine mul_lt_of hpi ?_
  have:V*((pw i:Int)*((1000000000:Nat):Int))=(pw i:Int)*(V*1000000000):=by rw[Int.mul_left_comm];rfl
  omega
 have hpn1:(pw (n+1):Int)=(pw n:Int)*1000000000:=by rw[pw_succ,Int.natCast_mul];rfl
 have hs0:s=0:=by
  have hsn:0<=s:=b3.1
  rcases Int.lt_or_le 0 s with h | h
  ·have h1:(pw (n+1):Int)*1<=(pw (n+1):Int)*s:=Int.mul_le_mul_of_nonneg_left (by omega) (by omega);omega
  ·omega
 subst hs0;rw[Int.mul_zero,Int.add_zero] at e2;rw[e2] at e1 ht2;exact⟨h0,ht2,e1,rfl⟩
theorem sum_splice {up r:Nat->Int} {n i L:Nat} (hL:i+(n+1)<=L) (hz:sumB (fun k=>up (i+(n+1)+k)) (L-i-(n+1))=0):sumB (splice up i (n+1) r) L=sumB up i+(pw i:Int)*sumB r (n+1):=by
 have h1:=sumB_add (splice up i (n+1) r) i (L-i);rw[show i+(L-i)=L by omega] at h1;have h2:=sumB_add (fun k=>splice up i (n+1) r (i+k)) (n+1) (L-i-(n+1));rw[show n+1+(L-i-(n+1))=L-i by omega] at h2;rw[h1,h2]
 have e1:sumB (splice up i (n+1) r) i=sumB up i:=sumB_congr fun k hk=>splice_out (Or.inl hk)
 have e2:sumB (fun k=>splice up i (n+1) r (i+k)) (n+1)=sumB r (n+1):=sumB_congr fun k hk=>splice_in hk
 have e3:sumB (fun k=>splice up i (n+1) r (i+(n+1+k))) (L-i-(n+1))=0:=by
  rw[<- hz]
  refine sumB_congr fun k hk=>?_
  rw[splice_out (Or.inr (by omega))]
  congr 1;omega
 rw[e1,e2,e3];simp
theorem DivI.step {X V g:Int} {n L M i:Nat} {up qp r:Nat->Int} (D:DivI X V n L M (i+1) up qp) (hi:i<M) (hL:M+n=L) (hV:V<(pw n:Int)) (hV0:0<V)
  (hg:0<=g/\g<1000000000) (hr:Dig r (n+1)) (hs:sumB r (n+1)=headV up n i-V*g) (hlt:headV up n i-V*g<V):DivI X V n L M i (splice up i (n+1) r) (upd qp i g):=by
 obtain⟨h0,h1,h2,h3⟩:=D.head hi hL hV hV0;have hS:=sum_splice (r:=r) (by omega) h3
 have hpi:(0:Int)<(pw i:Int):=by have:=pw_pos i;omega
 have b1:=(sumB_bd (o:=up) (n:=i) fun k hk=>D.udig k (by omega));refine⟨splice_Dig D.udig hr,upd_Dig D.qdig i hg,fun k hk=>by rw[upd_ne _ _ (by omega)];exact D.qz k (by omega),?_,?_⟩
 ·rw[hS,hs]
  have hq:sumB (fun k=>upd qp i g (i+k)) (M-i)=g+1000000000*sumB (fun k=>qp (i+1+k)) (M-(i+1)):=by
   rw[show M-i=(M-(i+1))+1 by omega,sumB_shift]
   have e:(fun k=>upd qp i g (i+(k+1)))=fun k=>qp (i+1+k):=by
    funext k;rw[upd_ne _ _ (by omega),show i+(k+1)=i+1+k by omega]
   rw[e,Nat.add_zero,upd_same]
  have hb:=D.bal;rw[h2,pw_succ,Int.natCast_mul] at hb;rw[hq]
  generalize sumB (fun k=>qp (i+1+k)) (M-(i+1))=Q at hb ⊢
  generalize headV up n i=h at hb ⊢
  generalize sumB up i=lo at hb ⊢
  generalize (pw i:Int)=P at hb ⊢
  rw[hb];have a1:P*(V*g)=V*(P*g):=Int.mul_left_comm _ _ _
  have a2:V*(P*((1000000000:Nat):Int)*Q)=V*(P*(1000000000*Q)):=by rw[Int.mul_assoc P];rfl
  simp only[Int.mul_add,Int.mul_sub];rw[a1,a2];omega
 ·rw[hS,hs];have:(pw i:Int)*(headV up n i-V*g)<=(pw i:Int)*(V-1):=Int.mul_le_mul_of_nonneg_left (by omega) (by omega);rw[Int.mul_sub (pw i:Int) V 1,Int.mul_comm (pw i:Int) V] at this;omega
theorem guess_ge {h V v1 two:Int} {B1:Int} (hv1:0<v1) (hB1:0<B1) (hV:v1*B1<=V) (h0:0<=h) (hh:h<(two+1)*B1) (hlt:h<V*1000000000) (hV0:0<V):h/V<=min (two/v1) 999999999:=by
 have hq0:0<=h/V:=Int.ediv_nonneg h0 (by omega);have hqV:h/V*V<=h:=Int.ediv_mul_le h (by omega);have h1:h/V<1000000000:=Int.ediv_lt_of_lt_mul hV0 (by rw[Int.mul_comm];exact hlt)
 have h2:h/V<=two/v1:=by
  refine(Int.le_ediv_iff_mul_le hv1).2 ?_;have a1:h/V*(v1*B1)<=h/V*V:=Int.mul_le_mul_of_nonneg_left hV hq0
  have a2:(h/V*v1)*B1<(two+1)*B1:=by rw[Int.mul_assoc];omega
  have:=Int.lt_of_mul_lt_mul_right a2 (by omega);omega
 omega
theorem guess_down {h V v1 v2 two h2 B2 g:Int} (hB2:0<B2) (hV:(v1*1000000000+v2)*B2<=V) (hh:h<(two*1000000000+h2+1)*B2) (hg:0<=g) (hover:(two-g*v1)*1000000000+h2<g*v2) (hge:h/V<=g) (hV0:0<V):h/V<=g-1:=by
 rcases Int.lt_or_le (h/V) g with hlt | hle
 ·omega
 ·have e:h/V=g:=by omega
  have h1:g*V<=h:=by rw[<- e];exact Int.ediv_mul_le h (by omega)
  have a1:g*((v1*1000000000+v2)*B2)<=g*V:=Int.mul_le_mul_of_nonneg_left hV hg
  have a2:(g*(v1*1000000000+v2))*B2<(two*1000000000+h2+1)*B2:=by rw[Int.mul_assoc];omega
  have a3:=Int.lt_of_mul_lt_mul_right a2 (by omega);rw[Int.mul_add,<- Int.mul_assoc] at a3;rw[Int.sub_mul] at hover;omega
theorem guess_right {h V g:Int} (hV0:0<V) (hge:h/V<=g) (hle:¬h<V*g):g=h/V/\0<=h-V*g/\h-V*g<V:=by
 have h1:g<=h/V:=(Int.le_ediv_iff_mul_le hV0).2 (by rw[Int.mul_comm];omega)
 have e:g=h/V:=by omega
 refine⟨e,by omega,?_⟩;have h2:=Int.lt_ediv_add_one_mul_self h hV0;rw[<- e,Int.add_mul,Int.mul_comm g V] at h2;omega
theorem guess_less {h V g:Int} (hV0:0<V) (hge:h/V<=g) (hlt:h<V*g):h/V<=g-1:=by
 have h1:h/V<g:=Int.ediv_lt_of_lt_mul hV0 (by rw[Int.mul_comm];exact hlt);omega
theorem top_two {f:Nat->Int} {m:Nat} (hd:Dig f (m+1+1)):sumB f (m+1+1)<(f (m+1)*1000000000+f m+1)*(pw m:Int)/\(f (m+1)*1000000000+f m)*(pw m:Int)<=sumB f (m+1+1):=by
 have b:=sumB_bd (o:=f) (n:=m) fun k hk=>hd k (by omega)
 rw[sumB,sumB,pw_succ,Int.natCast_mul]
 have e:f (m+1)*((pw m:Int)*((1000000000:Nat):Int))=f (m+1)*1000000000*(pw m:Int):=by rw[Int.mul_comm (pw m:Int),<- Int.mul_assoc];rfl
 rw[e,Int.add_mul,Int.add_mul];omega
theorem top_three {f:Nat->Int} {m:Nat} (hd:Dig f (m+1+1+1)):sumB f (m+1+1+1)<((f (m+1+1)*1000000000+f (m+1))*1000000000+f m+1)*(pw m:Int):=by
 have b:=top_two (f:=f) (m:=m) fun k hk=>hd k (by omega)
 rw[sumB,pw_succ,pw_succ,Int.natCast_mul,Int.natCast_mul]
 have e:f (m+1+1)*((pw m:Int)*((1000000000:Nat):Int)*((1000000000:Nat):Int))=f (m+1+1)*1000000000*1000000000*(pw m:Int):=by
  rw[Int.mul_comm (pw m:Int),Int.mul_assoc,Int.mul_comm (pw m:Int),<- Int.mul_assoc,<- Int.mul_assoc];rfl
 rw[e];have h1:sumB f (m+2)<(f (m+1)*1000000000+f m+1)*(pw m:Int):=b.1;rw[Int.add_mul,Int.add_mul] at h1;rw[Int.add_mul,Int.add_mul,Int.add_mul (f (m+1+1)*1000000000),Int.add_mul];omega
theorem sum_low {o:Nat->Int} {n L:Nat} (hd:Dig o L) (hn:n<=L) (h:sumB o L<(pw n:Int)):sumB o n=sumB o L:=by
 have e:=sumB_add o n (L-n);rw[show n+(L-n)=L by omega] at e;have b1:=(sumB_bd (o:=o) (n:=n) fun k hk=>hd k (by omega));have b2:=(sumB_bd (o:=fun k=>o (n+k)) (n:=L-n) fun k hk=>hd (n+k) (by omega))
 have hp:(0:Int)<(pw n:Int):=by have:=pw_pos n;omega
 generalize sumB (fun k=>o (n+k)) (L-n)=s at e b2
 rcases Int.lt_or_le 0 s with h1 | h1
 ·have:(pw n:Int)*1<=(pw n:Int)*s:=Int.mul_le_mul_of_nonneg_left (by omega) (by omega);omega
 ·have h2:s=0:=by omega
  rw[h2,Int.mul_zero] at e;omega
theorem div_end {A Bv sc Q R:Int} (hsc:0<sc) (h:A*sc=Bv*sc*Q+R) (h0:0<=R) (hlt:R<Bv*sc):Q=A/Bv/\R/sc=A%Bv:=by
 have e:R=sc*(A-Bv*Q):=by
  rw[Int.mul_sub,Int.mul_comm sc A,<- Int.mul_assoc,Int.mul_comm sc Bv];omega
 have h1:0<=A-Bv*Q:=by
  rcases Int.lt_or_le (A-Bv*Q) 0 with h | h
  ·have:=Int.mul_neg_of_pos_of_neg hsc h;omega
  ·exact h
 have h2:A-Bv*Q<Bv:=by
  refine mul_lt_of hsc ?_;rw[<- e,Int.mul_comm sc Bv];exact hlt
 have h3:=(Int.ediv_emod_unique (a:=A) (b:=Bv) (q:=Q) (r:=A-Bv*Q) (by omega)).2 ⟨by omega,h1,h2⟩;refine⟨h3.1.symm,?_⟩;rw[h3.2,e,Int.mul_ediv_cancel_left _ (by omega)]
theorem splice_self (up:Nat->Int) (i m:Nat):splice up i m (fun k=>up (i+k))=up:=by
 funext k;by_cases h:i<=k/\k<i+m
 ·obtain⟨j,rfl⟩:∃ j,k=i+j:=⟨k-i,by omega⟩;rw[splice_in (by omega)]
 ·rw[splice_out (by omega)]
theorem DivI.skip {X V:Int} {n L M i:Nat} {up qp:Nat->Int} (D:DivI X V n L M (i+1) up qp) (hi:i<M) (hL:M+n=L) (hV:V<(pw n:Int)) (hV0:0<V) (hq:headV up n i/V<=0):DivI X V n L M i up qp:=by
 have h0:=(D.head hi hL hV hV0).1;have h1:0<=headV up n i/V:=Int.ediv_nonneg h0 (by omega);have h2:=Int.lt_ediv_add_one_mul_self (headV up n i) hV0;rw[show headV up n i/V=0 by omega] at h2;have h:=D.step (g:=0) (r:=fun k=>up (i+k)) hi hL hV hV0 ⟨by omega,by omega⟩ (fun k hk=>D.udig (i+k) (by omega)) (by rw[Int.mul_zero,Int.sub_zero];rfl) (by rw[Int.mul_zero];omega);rw[splice_self] at h
 have e:upd qp i 0=qp:=by
  funext k;by_cases hk:k=i
  ·subst hk;rw[upd_same,D.qz k (by omega)]
  ·rw[upd_ne _ _ hk]
 rwa [e] at h
open Go.RowKit Go.Sort Go.ChangeShapes Go.WideShapes Go.ChangeAt
theorem cellsNum:Tryz.prog.cellsOf 30=2:=by kernel_rfl
theorem cellsBool:Tryz.prog.cellsOf 4=1:=by kernel_rfl
theorem cellsList:Tryz.prog.cellsOf 28=1:=by kernel_rfl
theorem cellsPart:Tryz.prog.cellsOf 128=1:=by kernel_rfl
theorem open_list {H:Type} {enc:TypeId × Value->H} {W:World} {sp:Nat->Bool} {hd:Bool} {fuel:Nat} {v:Value} {x:DataW H × List MemPlace}
  (h:DataW.trod enc Tryz.prog W 0 sp hd fuel 28 [v]=some x):∃ a n c o,v=.slice a n c/\Rd W a n o/\n<=c:=by
 rcases open_ints Tryz.underlying28 Tryz.underlying128 cellsPart h with ⟨e,_⟩ | ⟨a,len,cap,zs,e,_,hl,_,hz,_,hc,hw⟩
 ·simp only[List.cons.injEq,and_true] at e;exact⟨none,0,0,fun _=>0,e,Rd.nil _ _ _,zj⟩
 ·simp only[List.cons.injEq,and_true] at e
  have hlz:len<=zs.length:=by rw[hz];split <;> omega
  refine⟨some a,len,cap,fun i=>zs.getD i 0,e,⟨fun hn=>?_,fun i hi=>?_⟩,hl⟩
  ·obtain⟨b,off,rfl,h3⟩:=ints_at hc (by omega);exact⟨b,off,rfl,fun i hi=>h3 i (by omega)⟩
  ·have hmem:zs.getD i 0∈zs:=by
    rw[List.getD_eq_getElem?_getD,List.getElem?_eq_getElem (by omega)];exact List.getElem_mem _
   exact bounds_u32 (hw _ hmem)
end Limb
namespace Mono
open Go.RowKit Go.Sort
def cmpZ (x y:Int):Int:=if x<y then -1 else if y<x then 1 else 0
theorem cmp16_any (x y:Int) (w:World) :
  Calls Tryz.prog 201 #[.int .u16 x,.int .u16 y] w fun e w'=>e=.returned (.int .i64 (cmpZ x y))/\w'=w:=by
 rcases Int.lt_trichotomy x y with h | h | h
 ·have E:=qh (show cmpZ x y = -1 by simp[cmpZ,h]);go_enter Tryz.func201,Tryz.ntmps201;go_wp2;go_ret;exact⟨by rw[E.o];rfl,rfl⟩
 ·have E:=qh (show cmpZ x y=0 by simp[cmpZ,h]);subst h;go_enter Tryz.func201,Tryz.ntmps201;go_wp2;go_ret;exact⟨by rw[E.o];rfl,rfl⟩
 ·have E:=qh (show cmpZ x y=1 by simp[cmpZ,h];omega);go_enter Tryz.func201,Tryz.ntmps201;go_wp2;go_ret;exact⟨by rw[E.o];rfl,rfl⟩
theorem cmp64_any (x y:Int) (w:World) :
  Calls Tryz.prog 198 #[.int .i64 x,.int .i64 y] w fun e w'=>e=.returned (.int .i64 (cmpZ x y))/\w'=w:=by
 rcases Int.lt_trichotomy x y with h | h | h
 ·have E:=qh (show cmpZ x y = -1 by simp[cmpZ,h]);go_enter Tryz.func198,Tryz.ntmps198;go_wp2;go_ret;exact⟨by rw[E.o];rfl,rfl⟩
 ·have E:=qh (show cmpZ x y=0 by simp[cmpZ,h]);subst h;go_enter Tryz.func198,Tryz.ntmps198;go_wp2;go_ret;exact⟨by rw[E.o];rfl,rfl⟩
 ·have E:=qh (show cmpZ x y=1 by simp[cmpZ,h];omega);go_enter Tryz.func198,Tryz.ntmps198;go_wp2;go_ret;exact⟨by rw[E.o];rfl,rfl⟩
def Diff (a b:Nat->Int) (k:Nat):Prop:=k<=4/\(∀ j,j<k->a j=b j)/\(k<4->a k≠b k)
theorem diff_any (a b:Nat->Int):∃ k,Diff a b k:=by
 by_cases h:∀ k,k<4->a k=b k
 ·exact⟨4,by omega,h,fun hh=>absurd hh (by omega)⟩
 ·obtain⟨k,h1,h2,h3⟩:=first_bad (fun k=>a k=b k) 4 h;exact⟨k,by omega,h2,fun _=>h3⟩
def lexM (a b:Nat->Int):Int :=
 if a 0≠b 0 then cmpZ (a 0) (b 0) else if a 1≠b 1 then cmpZ (a 1) (b 1) else if a 2≠b 2 then cmpZ (a 2) (b 2) else cmpZ (a 3) (b 3)
theorem lex_diff {a b:Nat->Int} {k:Nat} (h:Diff a b k):lexM a b=if k<4 then cmpZ (a k) (b k) else 0:=by
 obtain⟨h1,h2,h3⟩:=h
 match k,h1 with
 | 0,_=>simp[lexM,h3 (by omega)]
 | 1,_=>simp[lexM,h2 0 (by omega),h3 (by omega)]
 | 2,_=>simp[lexM,h2 0 (by omega),h2 1 (by omega),h3 (by omega)]
 | 3,_=>simp[lexM,h2 0 (by omega),h2 1 (by omega),h2 2 (by omega)]
 | 4,_=>simp[lexM,h2 0 (by omega),h2 1 (by omega),h2 2 (by omega),h2 3 (by omega),cmpZ]
theorem compare_any (b1 b2 t1 t2:Nat) (a b:Nat->Int) (w:World) (hA:w.rowIs b1 t1 4 (cell a)) (hB:w.rowIs b2 t2 4 (cell b)) :
  Calls Tryz.prog 162 #[.slice (some ⟨b1,0,none⟩) 4 4,.slice (some ⟨b2,0,none⟩) 4 4] w fun e w'=>e=.returned (.int .i64 (lexM a b))/\w'=w:=by
 obtain⟨k0,hD⟩:=diff_any a b;have E:=qh (lex_diff hD);obtain⟨h4,heq,hne⟩:=hD;have EQ:=qh heq;clear heq;have NE:=qh hne;clear hne;go_enter Tryz.func162,Tryz.ntmps162;go_wp2;go_loop [11] (fun i=>∃ k:Nat,k<=k0/\i=.int .i64 k) (fun i=>4-(intOf i).toNat)
 case atStart=>exact⟨0,by omega,rfl⟩
 case round =>
  obtain⟨k,hk,rfl⟩:=hrel;by_cases hlt:k<4
  ·have c1:=hA.cell hlt;have c2:=hB.cell hlt;by_cases hlk:k<k0
   ·have Z:=qh (show cmpZ (a k) (b k)=0 by rw[EQ.o k hlk];simp[cmpZ]);go_wp2_with fail
    refine(cmp16_any _ _ _).mono ?_;rintro e w' ⟨rfl,rfl⟩;rw[Z.o];go_wp2;go_round
    case rel=>exact⟨k+1,by omega,by go_num⟩
    case measure=>simp[intOf];omega
   ·obtain rfl:k=k0:=by omega
    have Z:=qh (show lexM a b=cmpZ (a k) (b k) by rw[E.o,if_pos hlt])
    have hnz:(cmpZ (a k) (b k) != 0)=true:=by
     have:=NE.o hlt;unfold cmpZ;by_cases h1:a k<b k
     ·simp[h1]
     ·rw[if_neg h1,if_pos (by omega)];rfl
    go_wp2_with fail
    refine(cmp16_any _ _ _).mono ?_;rintro e w' ⟨rfl,rfl⟩;go_wp2;go_ret;exact⟨by rw[Z.o];rfl,rfl⟩
  ·have Z:=qh (show lexM a b=0 by rw[E.o,if_neg (by omega)])
   obtain rfl:k=4:=by omega
   go_wp2;go_ret;exact⟨by rw[Z.o];rfl,rfl⟩
theorem lexical_any (a b:Nat->Int) (w:World) :
  Calls Tryz.prog 101 #[mvf a,mvf b] w fun e w'=>e=.returned (.int .i64 (lexM a b))/\Below w.heap.size w w':=by
 have HX:=qh (boxes w 35 a b);go_enter Tryz.func101,Tryz.ntmps101;go_wp2;go_quiet (exact Calls.quiet_of_same (compare_any _ _ _ _ a b _ (HX.o.1.of_block rfl) (HX.o.2.of_block rfl)));go_wp2;go_ret;exact⟨rfl,below_drewN (by go_grown) _⟩
theorem graded_any (a b:Nat->Int) (w:World) (ha:Small a) (hb:Small b) :
  Calls Tryz.prog 160 #[mvf a,mvf b] w fun e w'=>e=.returned (.int .i64 (cmpZ (degM a) (degM b)))/\Below w.heap.size w w':=by
 have HA:=qh ha;clear ha;have HB:=qh hb;clear hb;have HX:=boxes w 35 a b;obtain⟨a0,a1,a2,a3⟩:=rows4 HX.1;obtain⟨b0,b1,b2,b3⟩:=rows4 HX.2;clear HX;go_enter Tryz.func160,Tryz.ntmps160;go_wp2;refine wp_region_quiet_below (by kernel_rfl) (by kernel_rfl) ?_
 repeat (go_big_quiet_step (first
  | (go_at_call 198;exact Calls.regrown_of ((cmp64_any _ _ _).mono fun e w' ⟨he,hw⟩=>⟨he,hw▸zk⟩))
  | (go_at_call 199;first | (with_reducible exact Calls.regrown_of (degree_any a _ HA.o)) | (with_reducible exact Calls.regrown_of (degree_any b _ HB.o)))))
 refine wpQuiet_nil ?_;intro w5 hw5;obtain⟨q,rfl⟩:=hw5;go_wp2;go_ret;exact⟨rfl,((zk.alloc zj _).alloc (by simp) _).trans ((below_regrown _ q.d q.os).mono (by simp;omega))⟩
end Mono
namespace Limb
open Go.RowKit Go.Sort
theorem chk_fn (x:Int) (w:World) :
  Calls Tryz.prog 225 #[.int .u32 x] w fun e w'=>e=.returned (.bool (decide (1000000000<=x)))/\w'=w:=by
 by_cases h:1000000000<=x
 ·have E:=qh (decide_eq_true h);go_enter Tryz.func225,Tryz.ntmps225;go_wp2;go_ret;exact⟨by rw[E.o];rfl,rfl⟩
 ·have E:=qh (zo h);go_enter Tryz.func225,Tryz.ntmps225;go_wp2;go_ret;exact⟨by rw[E.o];rfl,rfl⟩
theorem cf_chk (args:Array Value) (w:World):(callFunc 225 args).run Tryz.prog w=.ok (.enter 225 args) w:=by kernel_rfl
theorem idx_any (a:Option Addr) (n cap k0:Nat) (o:Nat->Int) (w:World) (h:Rd w a n o) (hn:n<=1000000000) (hk0:k0<=n) (hf:∀ i,i<k0->o i<1000000000) (hb:k0<n->1000000000<=o k0) :
  Calls Tryz.prog 245 #[.slice a n cap,.func (.func 225) #[] #[]] w fun e w'=>e=.returned (.int .i64 (if k0<n then (k0:Int) else -1))/\∃ m,w'=w.drewN m:=by
 have HF:=qh hf;clear hf;have HB:=qh hb;clear hb;have hcf:=cf_chk;go_enter Tryz.func245,Tryz.ntmps245;go_wp2;go_loopw [8] (fun i wr=>∃ j:Nat,j<=k0/\i=.int .i64 j/\∃ m,wr=w.drewN m) (fun i _=>n-(intOf i).toNat)
 case atStart=>exact⟨0,by omega,rfl,0,rfl⟩
 case round =>
  obtain⟨j,hj,rfl,m0,rfl⟩:=hrel;by_cases hjn:j<n
  ·obtain⟨b,off,rfl,hc⟩:=h.cells (by omega);have c1:=hc j hjn;clear hc h;by_cases hjk:j<k0
   ·have D:=HF.o j hjk
    have E:decide (1000000000<=o j)=false:=by simp;omega
    go_wp2_with fail
    refine(chk_fn (o j) _).mono ?_;rintro e w' ⟨rfl,hw⟩;subst w';rw[E];go_wp2;go_roundw
    case rel=>exact⟨j+1,by omega,by go_num,m0,rfl⟩
    case measure=>simp[intOf];omega
   ·obtain rfl:j=k0:=by omega
    have D:=HB.o hjn
    have E:decide (1000000000<=o j)=true:=by simp;omega
    go_wp2_with fail
    refine(chk_fn (o j) _).mono ?_;rintro e w' ⟨rfl,hw⟩;subst w';rw[E];go_wp2;go_ret;exact⟨by first | rfl | (rw[if_pos hjn];rfl),m0,rfl⟩
  ·have hkn:¬k0<n:=by omega
   clear h;go_wp2;go_ret;exact⟨by first | rfl | (rw[if_neg hkn];rfl),m0,rfl⟩
theorem has_any (a:Option Addr) (n cap k0:Nat) (o:Nat->Int) (w:World) (h:Rd w a n o) (hn:n<=1000000000) (hk0:k0<=n) (hf:∀ i,i<k0->o i<1000000000) (hb:k0<n->1000000000<=o k0) :
  Calls Tryz.prog 224 #[.slice a n cap,.func (.func 225) #[] #[]] w fun e w'=>e=.returned (.bool (decide (k0<n)))/\∃ m,w'=w.drewN m:=by
 have C:=qh (idx_any a n cap k0 o w h hn hk0 hf hb);clear h hf hb;by_cases hk:k0<n
 ·have E:=qh (decide_eq_true hk);rw[if_pos hk] at C;go_enter Tryz.func224,Tryz.ntmps224;go_wp2_with fail
  refine C.o.mono ?_;rintro e w' ⟨rfl,m,rfl⟩;go_wp2;go_ret;exact⟨by rw[E.o];rfl,m,rfl⟩
 ·have E:=qh (zo hk);rw[if_neg hk] at C;go_enter Tryz.func224,Tryz.ntmps224;go_wp2_with fail
  refine C.o.mono ?_;rintro e w' ⟨rfl,m,rfl⟩;go_wp2;go_ret;exact⟨by rw[E.o];rfl,m,rfl⟩
theorem first_bad (o:Nat->Int) (n:Nat):∃ k,k<=n/\(∀ i,i<k->o i<1000000000)/\(k<n->1000000000<=o k):=by
 induction n with
 | zero=>exact⟨0,by omega,fun i h=>by omega,fun h=>by omega⟩
 | succ n ih =>
  obtain⟨k,h1,h2,h3⟩:=ih;by_cases hk:k<n
  ·exact⟨k,by omega,h2,fun _=>h3 hk⟩
  ·obtain rfl:k=n:=by omega
   by_cases h:o k<1000000000
   ·exact⟨k+1,by omega,fun i hi=>by
     by_cases e:i=k
     ·rw[e];exact h
     ·exact h2 i (by omega),fun h=>by omega⟩
   ·exact⟨k,by omega,h2,fun _=>by omega⟩
open Classical in
theorem check_any (s:Bool) (a:Option Addr) (n cap:Nat) (o:Nat->Int) (w:World) (h:Rd w a n o) (hn:n<=1000000000) :
  Calls Tryz.prog 178 #[numV s a n cap] w fun e w'=>e=.returned (.bool (decide (okN s n o)))/\Below w.heap.size w w':=by
 obtain⟨k0,hk0,hf,hb⟩:=first_bad o n;have C:=qh (fun (w2:World) (hw:Below w.heap.size w w2)=>has_any a n cap k0 o w2 (h.below hw) hn hk0 hf hb);have hcf:=cf_chk;by_cases hk:k0<n
 ·have E:=qh (show decide (okN s n o)=false from zo fun hh=>by have:=hh.1 k0 hk;have:=hb hk;omega);have D:decide (k0<n)=true:=decide_eq_true hk;clear hf hb h;go_enter Tryz.func178,Tryz.ntmps178;go_wp2_with fail
  refine(C.o _ ?_).mono ?_
  ·exact qg
  rintro e w' ⟨rfl,m,rfl⟩;rw[D];go_wp2;go_ret;exact⟨by rw[E.o];rfl,qg⟩
 ·have D:decide (k0<n)=false:=zo hk
  have hfi:∀ i,i<n->o i<1000000000:=fun i hi=>hf i (by omega)
  clear hb;by_cases h0:n=0
  ·subst h0
   have E:=qh (show decide (okN s 0 o) = !s by
    cases s with
    | false=>exact decide_eq_true ⟨hfi,fun _=>rfl,fun h=>by omega⟩
    | true=>exact zo fun hh=>by have:=hh.2.1 rfl;contradiction)
   clear hf h hfi;go_enter Tryz.func178,Tryz.ntmps178;go_wp2_with fail
   refine(C.o _ ?_).mono ?_
   ·exact qg
   rintro e w' ⟨rfl,m,rfl⟩;rw[D]
   cases s with
   | false =>
    go_wp2;go_ret
    exact⟨by rw[E.o];rfl,qg⟩
   | true =>
    go_wp2;go_ret;exact⟨by rw[E.o];rfl,qg⟩
  ·obtain⟨b,off,rfl,hc⟩:=h.cells (by omega);have c1:=hc (n-1) (by omega)
   have E:=qh (show decide (okN s n o)=(o (n-1) != 0) by
    by_cases hz:o (n-1)=0
    ·rw[hz];exact zo fun hh=>hh.2.2 (by omega) hz
    ·rw[show(o (n-1) != 0)=true by simpa using hz]
     exact decide_eq_true ⟨hfi,fun h=>by omega,fun _=>hz⟩)
   have hlt:b<w.heap.size:=block_lt_of_cell c1;obtain⟨q,rfl⟩:∃ q,n=q+1:=⟨n-1,by omega⟩;rw[Nat.add_sub_cancel] at c1 E
   have ex:((q+1:Nat):Int)-1=(q:Int):=by omega
   have ez:(decide (((q+1:Nat):Int)=0))=false:=by simp;omega
   clear hf h hfi hc;go_enter Tryz.func178,Tryz.ntmps178;go_wp2_with fail
   refine(C.o _ ?_).mono ?_
   ·exact qg
   rintro e w' ⟨rfl,m,rfl⟩;rw[D];go_wp2;go_ret;exact⟨by rw[E.o];rfl,qg⟩
end Limb
namespace Limb
def q0 (x y:Int):Int:=if decide (x<0)=decide (y<0) then ((x.natAbs/y.natAbs:Nat):Int) else -((x.natAbs/y.natAbs:Nat):Int)
def r0 (x y:Int):Int:=if x<0 then -((x.natAbs%y.natAbs:Nat):Int) else ((x.natAbs%y.natAbs:Nat):Int)
theorem q0_abs (x y:Int):(q0 x y).natAbs=x.natAbs/y.natAbs:=by unfold q0;generalize x.natAbs/y.natAbs=Q;split <;> omega
theorem r0_abs (x y:Int):(r0 x y).natAbs=x.natAbs%y.natAbs:=by unfold r0;generalize x.natAbs%y.natAbs=R;split <;> omega
theorem pos_of_len {m:Nat}:(0<lenB m)↔0<m:=by
 have:=lenB_eq_zero (m:=m);omega
theorem q0_sign (x y:Int):((!(decide (x<0)==decide (y<0)))&&decide (0<lenB (x.natAbs/y.natAbs)))=decide (q0 x y<0):=by
 have e:=pos_of_len (m:=x.natAbs/y.natAbs);unfold q0
 generalize x.natAbs/y.natAbs=Q at *
 by_cases h:decide (x<0)=decide (y<0)
 ·rw[if_pos h,h];simp
 ·rw[if_neg h]
  have h1:(decide (x<0)==decide (y<0))=false:=by simpa using h
  rw[h1,Bool.not_false,Bool.true_and];exact decide_eq_decide.2 (e.trans (by omega))
theorem r0_sign (x y:Int):(decide (x<0)&&decide (0<lenB (x.natAbs%y.natAbs)))=decide (r0 x y<0):=by
 have e:=pos_of_len (m:=x.natAbs%y.natAbs);unfold r0
 generalize x.natAbs%y.natAbs=R at *
 by_cases h:x<0
 ·rw[if_pos h,decide_eq_true h,Bool.true_and];exact decide_eq_decide.2 (e.trans (by omega))
 ·rw[if_neg h,zo h,Bool.false_and];exact(zo (by omega)).symm
theorem div_pos {x y q r:Int} (hy:0<y) (e:x=y*q+r) (h0:0<=r) (h1:r<y):x/y=q/\x%y=r:=by
 have:=(Int.ediv_emod_unique hy (a:=x) (r:=r) (q:=q)).2 ⟨by omega,h0,h1⟩;exact this
theorem nat_div (A B:Nat):(A:Int)=(B:Int)*((A/B:Nat):Int)+((A%B:Nat):Int):=by
 rw[<- Int.natCast_mul,<- Int.natCast_add,Nat.div_add_mod]
theorem div_plain {x y:Int} (hy:y≠0) (h:¬r0 x y<0):x/y=q0 x y/\x%y=r0 x y:=by
 have e:=nat_div x.natAbs y.natAbs;have hr:x.natAbs%y.natAbs<y.natAbs:=Nat.mod_lt _ (by omega);unfold q0 r0 at *
 generalize x.natAbs%y.natAbs=R at *
 generalize x.natAbs/y.natAbs=Q at *
 have hx:x<0->R=0:=fun hx=>by rw[if_pos hx] at h;omega
 have key:∀ B:Nat,0<B->R<B->((x.natAbs:Int)=(B:Int)*(Q:Int)+(R:Int))->x/(B:Int)=(if x<0 then -(Q:Int) else (Q:Int))/\x%(B:Int)=(if x<0 then -(R:Int) else (R:Int)):=by
  intro B hB hRB hE;by_cases hn:x<0
  ·rw[if_pos hn,if_pos hn];have:=hx hn;refine div_pos (by omega) ?_ (by omega) (by omega);rw[Int.mul_neg];omega
  ·rw[if_neg hn,if_neg hn];exact div_pos (by omega) (by omega) (by omega) (by omega)
 rcases Int.lt_or_gt_of_ne hy with h1 | h1
 ·obtain⟨k1,k2⟩:=key y.natAbs (by omega) hr e
  have ey:y = -((y.natAbs:Nat):Int):=by omega
  have e1:x/y = -(x/((y.natAbs:Nat):Int)):=by conv=>lhs;rw[ey,Int.ediv_neg]
  have e2:x%y=x%((y.natAbs:Nat):Int):=by conv=>lhs;rw[ey,Int.emod_neg]
  rw[e1,e2,k1,k2];refine⟨?_,rfl⟩;by_cases hn:x<0
  ·rw[if_pos hn,if_pos (by simp[hn,h1])];omega
  ·rw[if_neg hn,if_neg (by simp[hn,h1])]
 ·obtain⟨k1,k2⟩:=key y.natAbs (by omega) hr e
  have ey:y=((y.natAbs:Nat):Int):=by omega
  have hy2:¬y<0:=by omega
  rw[<- ey] at k1 k2;rw[k1,k2];refine⟨?_,rfl⟩;by_cases hn:x<0
  ·rw[if_pos hn,if_neg (by simp[hn,hy2])]
  ·rw[if_neg hn,if_pos (by simp[hn,hy2])]
theorem div_down {x y:Int} (hy:y≠0) (h:r0 x y<0):x/y=q0 x y+(if y<0 then 1 else -1)/\x%y=r0 x y+(y.natAbs:Int):=by
 have e:=nat_div x.natAbs y.natAbs;have hr:x.natAbs%y.natAbs<y.natAbs:=Nat.mod_lt _ (by omega);unfold q0 r0 at *
 generalize x.natAbs%y.natAbs=R at *
 generalize x.natAbs/y.natAbs=Q at *
 have hx:x<0:=by
  rcases Int.lt_or_le x 0 with h1 | h1
  ·exact h1
  ·rw[if_neg (by omega)] at h;omega
 rw[if_pos hx] at h ⊢
 have key:x/((y.natAbs:Nat):Int) = -(Q:Int)-1/\x%((y.natAbs:Nat):Int) = -(R:Int)+((y.natAbs:Nat):Int):=by
  refine div_pos (by omega) ?_ (by omega) (by omega);rw[Int.mul_sub,Int.mul_neg];omega
 rcases Int.lt_or_gt_of_ne hy with h1 | h1
 ·have ey:y = -((y.natAbs:Nat):Int):=by omega
  have e1:x/y = -(x/((y.natAbs:Nat):Int)):=by conv=>lhs;rw[ey,Int.ediv_neg]
  have e2:x%y=x%((y.natAbs:Nat):Int):=by conv=>lhs;rw[ey,Int.emod_neg]
  rw[e1,e2,key.1,key.2];refine⟨?_,rfl⟩;rw[if_pos h1,if_pos (by simp[hx,h1])];omega
 ·have ey:y=((y.natAbs:Nat):Int):=by omega
  have k1:=key.1;have k2:=key.2
  have hy2:¬y<0:=by omega
  rw[<- ey] at k1 k2;rw[k1,k2];refine⟨?_,by omega⟩;rw[if_neg hy2,if_neg (by simp[hx,hy2])];omega
end Limb
namespace Limb
def offF (up vp:Nat->Int) (j N:Nat) (g:Int) (k:Nat):Int:=up (j+k)-g*part vp N k
theorem offF_sum (up vp:Nat->Int) (j N:Nat) (g:Int) {m:Nat} (hm:N<=m):sumB (offF up vp j N g) m=sumB (fun k=>up (j+k)) m-sumB vp N*g:=by
 have e:(offF up vp j N g)=fun k=>(fun k=>up (j+k)) k+(fun k=>part vp N k*(-g)) k:=by
  funext k;show up (j+k)-g*part vp N k=up (j+k)+part vp N k * -g;rw[Int.mul_neg,Int.mul_comm g];omega
 rw[e,sumB_plus,sumB_times,sumB_part vp hm,Int.mul_neg];omega
theorem cS_neg {f:Nat->Int} {lo:Int} {n:Nat} (hl:lo<=0) (h:∀ i,i<n->lo*999999999<=f i/\f i<=999999999):lo<=cS f n/\cS f n<=0:=by
 induction n with
 | zero=>exact⟨hl,Int.le_refl _⟩
 | succ n ih =>
  have h1:=ih fun i hi=>h i (by omega)
  have h2:=h n (by omega);rw[cS];omega
theorem take_step {a n:Int} (ha:0<=a/\a<1000000000) (hn:0<=n) :
  (a<n%1000000000->a+1000000000-n%1000000000=(a-n)%1000000000/\n/1000000000+1 = -((a-n)/1000000000)) /\
  (¬a<n%1000000000->a-n%1000000000=(a-n)%1000000000/\n/1000000000 = -((a-n)/1000000000)):=by
 omega
def takeF (p ob:Nat->Int) (lb at':Nat) (often:Int) (i:Nat):Nat->Int:=fun j=>if at'<=j/\j<at' + i then cD (offF p ob at' lb often) (j-at') else p j
theorem takeF_zero (p ob:Nat->Int) (lb at':Nat) (often:Int):takeF p ob lb at' often 0=p:=by
 funext j;unfold takeF;rw[if_neg (by omega)]
theorem takeF_here (p ob:Nat->Int) (lb at':Nat) (often:Int) (i:Nat):takeF p ob lb at' often i (at' + i)=p (at' + i):=by
 unfold takeF;rw[if_neg (by omega)]
theorem takeF_succ (p ob:Nat->Int) (lb at':Nat) (often:Int) (i:Nat):upd (takeF p ob lb at' often i) (at' + i) (cD (offF p ob at' lb often) i)=takeF p ob lb at' often (i+1):=by
 funext j;unfold upd takeF;by_cases e:j=at' + i
 ·subst e;rw[if_pos rfl,if_pos (by omega),show at' + i-at'=i by omega]
 ·rw[if_neg e];by_cases h:at'<=j/\j<at' + i
  ·rw[if_pos h,if_pos (by omega)]
  ·rw[if_neg h,if_neg (by omega)]
theorem takeF_Dig {p ob:Nat->Int} {lb at':Nat} {often:Int} {i n:Nat} (h:Dig p n):Dig (takeF p ob lb at' often i) n:=by
 intro j hj;unfold takeF;split
 ·exact cD_Dig _ (j-at' + 1) _ (by omega)
 ·exact h j hj
theorem takeF_sum {p ob:Nat->Int} {lb at' m:Nat} {often:Int} (hp:Dig p (at' + m)) (hm:lb<=m) (h0:0<=often*sumB ob lb) (h:often*sumB ob lb*(pw at':Int)<=sumB p (at' + m)) :
  sumB (takeF p ob lb at' often m) (at' + m)=sumB p (at' + m)-often*sumB ob lb*(pw at':Int):=by
 have e1:=sumB_add (takeF p ob lb at' often m) at' m;have e2:=sumB_add p at' m
 have e3:sumB (takeF p ob lb at' often m) at'=sumB p at':=sumB_congr fun i hi=>by unfold takeF;rw[if_neg (by omega)]
 have e4:sumB (fun i=>takeF p ob lb at' often m (at' + i)) m=sumB (cD (offF p ob at' lb often)) m:=sumB_congr fun i hi=>by
  show takeF p ob lb at' often m (at' + i)=_;unfold takeF;rw[if_pos (by omega),show at' + i-at'=i by omega]
 have b1:=sumB_bd (o:=p) (n:=at') fun i hi=>hp i (by omega)
 have b2:=sumB_bd (o:=fun i=>p (at' + i)) (n:=m) fun i hi=>hp (at' + i) (by omega)
 have es:=offF_sum p ob at' lb often hm;rw[Int.mul_comm (sumB ob lb)] at es
 generalize often*sumB ob lb=T at *
 generalize sumB (fun i=>p (at' + i)) m=S at *
 have hpp:(0:Int)<(pw at':Int):=by have:=pw_pos at';omega
 have hX:0<=S-T:=by
  rcases Int.lt_or_le (S-T) 0 with h1 | h1
  ·exfalso;have h2:(pw at':Int)*(S-T)<=(pw at':Int)*(-1):=Int.mul_le_mul_of_nonneg_left (by omega) (by omega);rw[Int.mul_sub] at h2;rw[Int.mul_comm T] at h;omega
  ·exact h1
 have hf:=cS_fits (f:=offF p ob at' lb often) (n:=m) (by rw[es];exact hX) (by rw[es];omega);rw[e1,e3,e4,hf.2,es,e2,Int.mul_sub,Int.mul_comm T];omega
def topF (p:Nat->Int) (n at':Nat):Int:=1000000000*part p n (at' + 1)+part p n at'
theorem topF_le {p:Nat->Int} {n at':Nat} (hp:Dig p n) (hat:at' < n):topF p n at' * (pw at':Int)<=sumB p n:=by
 have hpp:(0:Int)<(pw at':Int):=by have:=pw_pos at';omega
 unfold topF part;rw[if_pos hat];by_cases h:at' + 1<n
 ·rw[if_pos h];obtain⟨m,rfl⟩:∃ m,n=(at' + 1+1)+m:=⟨n-(at' + 1+1),by omega⟩;rw[sumB_add,sumB,sumB,pw_succ];have b1:=(sumB_bd (o:=p) (n:=at') fun i hi=>hp i (by omega)).1;have b2:=(sumB_bd (o:=fun i=>p (at' + 1+1+i)) (n:=m) fun i hi=>hp _ (by omega)).1;have b3:0<=(pw (at' + 1+1):Int)*sumB (fun i=>p (at' + 1+1+i)) m:=Int.mul_nonneg (by omega) b2
  have e:(1000000000*p (at' + 1)+p at')*(pw at':Int)=p at' * (pw at':Int)+p (at' + 1)*((pw at' * 1000000000:Nat):Int):=by
   have h1:1000000000*p (at' + 1)*(pw at':Int)=p (at' + 1)*((pw at':Int)*1000000000):=by ac_rfl
   have h2:((pw at' * 1000000000:Nat):Int)=(pw at':Int)*1000000000:=by rw[Int.natCast_mul];rfl
   rw[Int.add_mul,h1,h2];omega
  omega
 ·obtain rfl:n=at' + 1:=by omega
  rw[if_neg h,sumB];have b1:=(sumB_bd (o:=p) (n:=at') fun i hi=>hp i (by omega)).1
  have e:(1000000000*0+p at')*(pw at':Int)=p at' * (pw at':Int):=by congr 1;omega
  omega
theorem topF_bd {p:Nat->Int} {n at':Nat} (hp:Dig p n):0<=topF p n at'/\topF p n at'<=999999999999999999:=by
 unfold topF part;constructor
 ·split <;> split
  ·have h1:=hp _ ‹at' + 1<n›;have h2:=hp _ ‹at' < n›;omega
  ·have h1:=hp _ ‹at' + 1<n›;omega
  ·have h2:=hp _ ‹at' < n›;omega
  ·omega
 ·split <;> split
  ·have h1:=hp _ ‹at' + 1<n›;have h2:=hp _ ‹at' < n›;omega
  ·have h1:=hp _ ‹at' + 1<n›;omega
  ·have h2:=hp _ ‹at' < n›;omega
  ·omega
theorem goes_guess {L V v T:Int} {l k:Nat} (hV1:V<(v+1)*(pw l:Int)) (hv:0<v) (hLV:L<V*(pw (k+1):Int)) (hT:T*(pw (k+l):Int)<=L) (hT0:0<=T) (hV0:0<V) :
  0<=T/(v+1)/\T/(v+1)<=999999999/\T/(v+1)*V*(pw k:Int)<=L:=by
 have hk:(0:Int)<(pw k:Int):=by have:=pw_pos k;omega
 have hl:(0:Int)<(pw l:Int):=by have:=pw_pos l;omega
 have ekl:((pw (k+l):Nat):Int)=(pw k:Int)*(pw l:Int):=by rw[pw_add,Int.natCast_mul]
 have ek1:((pw (k+1):Nat):Int)=(pw k:Int)*1000000000:=by rw[pw_succ,Int.natCast_mul];rfl
 have g0:0<=T/(v+1):=Int.ediv_nonneg hT0 (by omega);have g1:T/(v+1)*(v+1)<=T:=Int.ediv_mul_le _ (by omega);have hkl:(0:Int)<(pw k:Int)*(pw l:Int):=Int.mul_pos hk hl;refine⟨g0,?_,?_⟩
 ·have h1:T*((pw k:Int)*(pw l:Int))<(v+1)*1000000000*((pw k:Int)*(pw l:Int)):=by
   rw[<- ekl];refine Int.lt_of_le_of_lt hT (Int.lt_trans hLV ?_);rw[ek1,ekl];have h2:V*((pw k:Int)*1000000000)<(v+1)*(pw l:Int)*((pw k:Int)*1000000000):=Int.mul_lt_mul_of_pos_right hV1 (Int.mul_pos hk (by decide))
   have h3:(v+1)*(pw l:Int)*((pw k:Int)*1000000000)=(v+1)*1000000000*((pw k:Int)*(pw l:Int)):=by
    ac_rfl
   omega
  have h4:T<(v+1)*1000000000:=Int.lt_of_mul_lt_mul_right h1 (by omega);have h5:T/(v+1)<1000000000:=Int.ediv_lt_of_lt_mul (by omega) (by rw[Int.mul_comm];exact h4);omega
 ·have h1:T/(v+1)*V*(pw k:Int)<=T/(v+1)*((v+1)*(pw l:Int))*(pw k:Int):=Int.mul_le_mul_of_nonneg_right (Int.mul_le_mul_of_nonneg_left (by omega) g0) (by omega)
  have h2:T/(v+1)*((v+1)*(pw l:Int))*(pw k:Int)=T/(v+1)*(v+1)*((pw k:Int)*(pw l:Int)):=by
   ac_rfl
  have h3:T/(v+1)*(v+1)*((pw k:Int)*(pw l:Int))<=T*((pw k:Int)*(pw l:Int)):=Int.mul_le_mul_of_nonneg_right g1 (by omega);rw[ekl] at hT;omega
end Limb
namespace Mono
open Go.RowKit Go.Sort
def revM (a:Nat->Int) (i:Nat):Int:=a (3-i)
theorem reverse_any (b t:Nat) (a:Nat->Int) (w:World) (hA:w.rowIs b t 4 (cell a)) :
  Calls Tryz.prog 200 #[.slice (some ⟨b,0,none⟩) 4 4] w fun e w'=>e=.returned (.tuple #[])/\w'.rowIs b t 4 (cell (revM a))/\w.grownBy w' (some b):=by
 have HR:=qh hA;obtain⟨c0,c1,c2,c3⟩:=rowc hA
 have hf:=fun i=>hA.frozen i
 clear hA;go_enter Tryz.func200,Tryz.ntmps200;go_wp2;refine wp_loop_rounds 3 ?_;rw[rounds_succ];go_wp2;go_region;go_wp2;rw[rounds_succ];go_wp2;go_region;go_wp2;rw[rounds_succ];go_wp2;go_end0;have R:=((((HR.o.set 0 (.int .u16 (a 3))).set 3 (.int .u16 (a 0))).set 1 (.int .u16 (a 2))).set 2 (.int .u16 (a 1))).drew.drew;refine⟨rfl,R.congr (fun j hj=>?_),rfl,rfl,rfl,?_,fun k _ hk=>?_⟩
 ·match j,hj with
  | 0,_=>simp[revM,cell]
  | 1,_=>simp[revM,cell]
  | 2,_=>simp[revM,cell]
  | 3,_=>simp[revM,cell]
 ·simp
 ·have e:k≠b:=fun e=>hk (by rw[e])
  show((((w.setCell ⟨b,0,none⟩ _).setCell ⟨b,3,none⟩ _).setCell ⟨b,1,none⟩ _).setCell ⟨b,2,none⟩ _).heap[k]?=_;rw[Below.heap_setCell _ _ _ _ e,Below.heap_setCell _ _ _ _ e,Below.heap_setCell _ _ _ _ e,Below.heap_setCell _ _ _ _ e]
theorem backward_any (a b:Nat->Int) (w:World) :
  Calls Tryz.prog 161 #[mvf a,mvf b] w fun e w'=>e=.returned (.int .i64 (lexM (revM b) (revM a)))/\Below w.heap.size w w':=by
 have HX:=qh (boxes w 35 a b);go_enter Tryz.func161,Tryz.ntmps161;go_wp2_with fail
 refine(reverse_any _ _ a _ HX.o.1).mono ?_;rintro e w1 ⟨rfl,hr1,hg1⟩;have hb1:=hr1;have HB1:=qh (HX.o.2.of_block (hg1.block (w.heap.size+1) (by simp) (by simp)));have G1:=qh (((zk.alloc zj _).alloc (by simp) _).grown hg1 (by simp;omega) (by simp):Below w.heap.size w w1);have HR1:=qh hr1;have HG1:=qh hg1.size;clear hr1 hg1 hb1;go_wp2_with fail
 refine(reverse_any _ _ b _ HB1.o).mono ?_;rintro e w2 ⟨rfl,hr2,hg2⟩;have HB2:=qh hr2;have HA2:=qh (HR1.o.of_block (hg2.block w.heap.size (by have:=HG1.o;simp at this;omega) (by simp)));have G2:=qh (G1.o.grown hg2 (by have:=G1.o.size;omega) (by simp));clear hr2 hg2;go_wp2;go_quiet (exact Calls.quiet_of_same (compare_any _ _ _ _ (revM b) (revM a) _ (HB2.o.of_block rfl) (HA2.o.of_block rfl)));go_wp2;go_ret;exact⟨rfl,below_drewN G2.o _⟩
def putObj (X:World) (r:Nat) (o:Obj):World:={ X with heap:=X.heap.setIfInBounds r o }
@[go_sem] theorem size_putObj (X:World) (r:Nat) (o:Obj):(putObj X r o).heap.size=X.heap.size:=by simp[putObj]
theorem putObj_same {X:World} {r:Nat} {o o':Obj} (h:X.heap[r]?=some o'):(putObj X r o).heap[r]?=some o:=by
 have:=lt_of_block h;simp[putObj,this]
theorem putObj_other (X:World) {r k:Nat} (o:Obj) (h:k≠r):(putObj X r o).heap[k]?=X.heap[k]?:=by
 simp[putObj,Array.getElem?_setIfInBounds];omega
theorem below_putObj {B:Nat} {w X:World} (h:Below B w X) {r:Nat} (hr:B<=r) (o:Obj):Below B w (putObj X r o) :=
 h.trans ⟨rfl,rfl,rfl,by simp[putObj],fun k hk=>putObj_other X o (by omega)⟩
theorem checkKey8 (b:Bool) (n:Nat) (k:Int) (w:World):(Instr.checkKey b (n+1) 24 (.int .u8 k)).run Tryz.prog w=.ok () w:=by
 rw[Instr.checkKey];simp[Sem.run_bind,run_underlying Tryz.underlying24]
theorem upd0 {X:World} {r:Nat} (h:X.heap[r]?=some (.map #[] 0)) (k:Int) (v:Value) :
  (Instr.mapUpdate 108 (.map (some r)) (.int .u8 k) v).run Tryz.prog X=.ok () (putObj X r (.map #[⟨.int .u8 k,v,0⟩] 1)):=by
 unfold Instr.mapUpdate;simp[Sem.run_bind,run_underlying Tryz.underlying108,h,getObj,setObj,checkKey8 _ 9999,Instr.findKey,run_underlying Tryz.underlying24,Instr.findNow,putObj,Sem.run]
theorem upd1 {X:World} {r:Nat} {k1:Int} {v1:Value} (h:X.heap[r]?=some (.map #[⟨.int .u8 k1,v1,0⟩] 1)) (k:Int) (v:Value) (hk:(k==k1)=false) :
  (Instr.mapUpdate 108 (.map (some r)) (.int .u8 k) v).run Tryz.prog X=.ok () (putObj X r (.map #[⟨.int .u8 k1,v1,0⟩,⟨.int .u8 k,v,1⟩] 2)):=by
 unfold Instr.mapUpdate;simp[Sem.run_bind,run_underlying Tryz.underlying108,h,getObj,setObj,checkKey8 _ 9999,Instr.findKey,run_underlying Tryz.underlying24,Instr.findNow,Instr.sameNow,putObj,Sem.run,hk]
theorem look2 {X:World} {r:Nat} {k1 k2:Int} {v1 v2:Value} (h:X.heap[r]?=some (.map #[⟨.int .u8 k1,v1,0⟩,⟨.int .u8 k2,v2,1⟩] 2)) (k:Int) :
  (Instr.lookup 108 (.map (some r)) (.int .u8 k) false).run Tryz.prog X=.ok (if (k==k1)=true then v1 else if (k==k2)=true then v2 else .slice none 0 0) X:=by
 have hz:∀ w,(zeroValue 107).run Tryz.prog w=.ok (.slice none 0 0) w:=fun _=>by kernel_rfl
 unfold Instr.lookup
 cases h1:k==k1 <;> cases h2:k==k2 <;>
 simp[Sem.run_bind,run_underlying Tryz.underlying108,h,getObj,checkKey8 _ 9999,Instr.findKey,run_underlying Tryz.underlying24,Instr.findNow,Instr.sameNow,Sem.run,hz,h1,h2]
abbrev fnG:Value:=.func (.func 160) #[] #[]
abbrev fnL:Value:=.func (.func 101) #[] #[]
abbrev fnB:Value:=.func (.func 161) #[] #[]
def Ords (B:Nat) (X:World):Prop :=
 X.heap[B]?=some (.map #[⟨.int .u8 1,.slice (some ⟨B+1,0,none⟩) 2 2,0⟩,⟨.int .u8 2,.slice (some ⟨B+1+1,0,none⟩) 2 2,1⟩] 2) /\
 (X.cell? ⟨B+1,0,none⟩=some fnG/\X.cell? ⟨B+1,1,none⟩=some fnL)/\(X.cell? ⟨B+1+1,0,none⟩=some fnG/\X.cell? ⟨B+1+1,1,none⟩=some fnB)
def ordO (f:Value):Obj:=.cells #[fnG,f] 110
def ordM1 (B:Nat):Obj:=.map #[⟨.int .u8 1,.slice (some ⟨B+1,0,none⟩) 2 2,0⟩] 1
def ordM2 (B:Nat):Obj:=.map #[⟨.int .u8 1,.slice (some ⟨B+1,0,none⟩) 2 2,0⟩,⟨.int .u8 2,.slice (some ⟨B+1+1,0,none⟩) 2 2,1⟩] 2
def ordW (w:World):World:=putObj ((putObj ((w.alloc (.map #[] 0)).alloc (ordO fnL)) w.heap.size (ordM1 w.heap.size)).alloc (ordO fnB)) w.heap.size (ordM2 w.heap.size)
theorem ordW_ok (w:World):Ords w.heap.size (ordW w)/\Below w.heap.size w (ordW w):=by
 have e0:((w.alloc (.map #[] 0)).alloc (ordO fnL)).heap[w.heap.size]?=some (.map #[] 0):=(Below.heap_alloc _ _ _ (by simp)).trans (Go.heap_alloc_new w _)
 have e1:((w.alloc (.map #[] 0)).alloc (ordO fnL)).heap[w.heap.size+1]?=some (ordO fnL):=by
  have:=Go.heap_alloc_new (w.alloc (.map #[] 0)) (ordO fnL);rwa [World.size_alloc] at this
 have f0:=putObj_same (o:=ordM1 w.heap.size) e0;have f1:=(putObj_other ((w.alloc (.map #[] 0)).alloc (ordO fnL)) (ordM1 w.heap.size) (show w.heap.size+1≠w.heap.size by omega)).trans e1
 have hs:(putObj ((w.alloc (.map #[] 0)).alloc (ordO fnL)) w.heap.size (ordM1 w.heap.size)).heap.size=w.heap.size+1+1:=by simp[size_putObj]
 have g2:=Go.heap_alloc_new (putObj ((w.alloc (.map #[] 0)).alloc (ordO fnL)) w.heap.size (ordM1 w.heap.size)) (ordO fnB);rw[hs] at g2;have g0:=(Below.heap_alloc (putObj ((w.alloc (.map #[] 0)).alloc (ordO fnL)) w.heap.size (ordM1 w.heap.size)) (ordO fnB) _ (by rw[hs];omega)).trans f0;have g1:=(Below.heap_alloc (putObj ((w.alloc (.map #[] 0)).alloc (ordO fnL)) w.heap.size (ordM1 w.heap.size)) (ordO fnB) _ (by rw[hs];omega)).trans f1;have h0:=putObj_same (o:=ordM2 w.heap.size) g0;have h1:=(putObj_other _ (ordM2 w.heap.size) (show w.heap.size+1≠w.heap.size by omega)).trans g1;have h2:=(putObj_other _ (ordM2 w.heap.size) (show w.heap.size+1+1≠w.heap.size by omega)).trans g2;refine⟨⟨h0,⟨?_,?_⟩,?_,?_⟩,?_⟩
 ·exact(cell_of_row _ _ 0 _ _ _ h1)
 ·exact(cell_of_row _ _ 1 _ _ _ h1)
 ·exact(cell_of_row _ _ 0 _ _ _ h2)
 ·exact(cell_of_row _ _ 1 _ _ _ h2)
 ·refine below_putObj (Below.alloc (below_putObj ((zk.alloc zj _).alloc (by simp) _) zj _) ?_ _) zj _;rw[hs];omega
theorem orders_any (w:World) :
  Calls Tryz.prog 100 #[] w fun e w'=>e=.returned (.map (some w.heap.size))/\Ords w.heap.size w'/\Below w.heap.size w w':=by
 have hmm:=fun (t:TypeId) (w:World)=>run_makeMap (P:=Tryz.prog) t w
 have u0:=fun (o:Obj) v=>upd0 (X:=(w.alloc (.map #[] 0)).alloc o) (r:=w.heap.size) ((Below.heap_alloc _ o _ (by simp)).trans (Go.heap_alloc_new w _)) 1 v
 have u1:=fun (o1:Obj) v1 (o2:Obj) v=>upd1 (X:=(putObj ((w.alloc (.map #[] 0)).alloc o1) w.heap.size (.map #[⟨.int .u8 1,v1,0⟩] 1)).alloc o2) (r:=w.heap.size) (k1:=1) (v1:=v1)
  ((Below.heap_alloc _ o2 _ (by rw[size_putObj];simp;omega)).trans (putObj_same ((Below.heap_alloc _ o1 _ (by simp)).trans (Go.heap_alloc_new w _)))) 2 v rfl
 have hok:=qh (ordW_ok w);go_enter Tryz.func100,Tryz.ntmps100;go_wp2;go_ret;exact⟨rfl,hok.o⟩
end Mono
namespace Limb
theorem low_num (t l:Int) (hl:l≠0):t/(if l<0 then -((Int.gcd t l:Nat):Int) else ((Int.gcd t l:Nat):Int))=(Rat.divInt t l).num:=by
 rw[Rat.num_divInt,Int.gcd_comm l t];have hd:((Int.gcd t l:Nat):Int) ∣ t:=Int.gcd_dvd_left t l
 rcases Int.lt_or_gt_of_ne hl with h | h
 ·rw[if_pos h,Int.sign_eq_neg_one_of_neg h,Int.ediv_neg,Int.neg_mul,Int.one_mul,Int.neg_ediv_of_dvd hd]
 ·rw[if_neg (by omega),Int.sign_eq_one_of_pos h,Int.one_mul]
theorem low_den (t l:Int) (hl:l≠0):l/(if l<0 then -((Int.gcd t l:Nat):Int) else ((Int.gcd t l:Nat):Int))=((Rat.divInt t l).den:Int):=by
 rw[Rat.den_divInt,if_neg hl,Int.gcd_comm l t];have hd:((Int.gcd t l:Nat):Int) ∣ l:=Int.gcd_dvd_right t l;rw[Int.natCast_ediv]
 rcases Int.lt_or_gt_of_ne hl with h | h
 ·rw[if_pos h,Int.ediv_neg,<- Int.neg_ediv_of_dvd hd]
  congr 1;omega
 ·rw[if_neg (by omega)]
  congr 1;omega
theorem low_gcd (t l:Int) (hl:l≠0):(if l<0 then -((Int.gcd t l:Nat):Int) else ((Int.gcd t l:Nat):Int))≠0:=by
 have h:Int.gcd t l≠0:=fun h=>hl (Int.eq_zero_of_gcd_eq_zero_right h)
 split <;> omega
def okF (s1:Bool) (n1:Nat) (o1:Nat->Int) (s2:Bool) (n2:Nat) (o2:Nat->Int):Prop :=
 okN s1 n1 o1/\okN s2 n2 o2/\0<valN s2 n2 o2/\Int.gcd (valN s1 n1 o1) (valN s2 n2 o2)=1
open Classical in
noncomputable def valF (s1:Bool) (n1:Nat) (o1:Nat->Int) (s2:Bool) (n2:Nat) (o2:Nat->Int):Rat:=if okF s1 n1 o1 s2 n2 o2 then Rat.divInt (valN s1 n1 o1) (valN s2 n2 o2) else 0
theorem div_one_num {t l:Int} (hl:0<l) (h:Int.gcd t l=1):(Rat.divInt t l).num=t/\((Rat.divInt t l).den:Int)=l:=by
 have h1:=low_num t l (by omega);have h2:=low_den t l (by omega);rw[if_neg (by omega),h] at h1 h2;simp only[Int.natCast_one,Int.ediv_one] at h1 h2;exact⟨h1.symm,h2.symm⟩
theorem valF_ok {s1:Bool} {n1:Nat} {o1:Nat->Int} {s2:Bool} {n2:Nat} {o2:Nat->Int} (h:okF s1 n1 o1 s2 n2 o2):(valF s1 n1 o1 s2 n2 o2).num=valN s1 n1 o1/\((valF s1 n1 o1 s2 n2 o2).den:Int)=valN s2 n2 o2:=by
 unfold valF;rw[if_pos h];exact div_one_num h.2.2.1 h.2.2.2
theorem valF_not {s1:Bool} {n1:Nat} {o1:Nat->Int} {s2:Bool} {n2:Nat} {o2:Nat->Int} (h:¬okF s1 n1 o1 s2 n2 o2):valF s1 n1 o1 s2 n2 o2=0:=by
 unfold valF;rw[if_neg h]
theorem rat_gcd (x:Rat):Int.gcd x.num (x.den:Int)=1:=by
 have:=x.reduced;show Nat.gcd x.num.natAbs ((x.den:Int)).natAbs=1;rw[Int.natAbs_natCast];exact this
theorem rat_pos (x:Rat):(0:Int)<(x.den:Int):=by have:=x.den_pos;omega
open Go.RowKit Go.Sort
def Bx (w:World) (b:Nat) (t:TypeId) (x y:Value):Prop:=w.heap[b]?=some (.cells #[x,y] t (0,0))
def bxf (x y:Value) (i:Nat):Value:=if i=0 then x else y
theorem Bx.row {w:World} {b:Nat} {t:TypeId} {x y:Value} (h:Bx w b t x y):w.rowIs b t 2 (bxf x y) :=
 ⟨#[x,y],h,rfl,fun i hi=>by
  match i,hi with
  | 0,_=>rfl
  | 1,_=>rfl⟩
theorem Bx.of_row {w:World} {b:Nat} {t:TypeId} {f:Nat->Value} (h:w.rowIs b t 2 f):Bx w b t (f 0) (f 1):=by
 obtain⟨c,hb,hn,hc⟩:=h;show w.heap[b]?=_;rw[hb]
 have e:c=#[f 0,f 1]:=by
  apply Array.ext
  ·simpa using hn
  ·intro i h1 h2;have h3:=hc i (by omega);rw[Array.getElem?_eq_getElem h1] at h3
   have h4:i<2:=by omega
   have h5:#[f 0,f 1][i]?=some (f i):=by
    match i,h4 with
    | 0,_=>rfl
    | 1,_=>rfl
   rw[Array.getElem?_eq_getElem h2] at h5;simp only[Option.some.injEq] at h3 h5;rw[h3,h5]
 rw[e]
theorem Bx.c0 {w:World} {b:Nat} {t:TypeId} {x y:Value} (h:Bx w b t x y):w.cell? ⟨b,0,none⟩=some x:=cell_of_row _ _ _ _ _ _ h
theorem Bx.c1 {w:World} {b:Nat} {t:TypeId} {x y:Value} (h:Bx w b t x y):w.cell? ⟨b,1,none⟩=some y:=cell_of_row _ _ _ _ _ _ h
theorem Bx.fz {w:World} {b:Nat} {t:TypeId} {x y:Value} (h:Bx w b t x y) (i:Nat):w.frozen? ⟨b,i,none⟩=false:=h.row.frozen i
theorem Bx.lt {w:World} {b:Nat} {t:TypeId} {x y:Value} (h:Bx w b t x y):b<w.heap.size:=h.row.lt
theorem Bx.of {w w':World} {b:Nat} {t:TypeId} {x y:Value} (h:Bx w b t x y) (e:w'.heap[b]?=w.heap[b]?):Bx w' b t x y:=e.trans h
theorem Bx.below {W w:World} {b B:Nat} {t:TypeId} {x y:Value} (h:Bx W b t x y) (hb:Below B W w) (hlt:b<B):Bx w b t x y:=h.of (hb.block _ hlt)
theorem Bx.bl {W w:World} {b:Nat} {t:TypeId} {x y:Value} (h:Bx W b t x y) (hb:Below W.heap.size W w):Bx w b t x y:=h.below hb h.lt
theorem Bx.alloc {w:World} {b:Nat} {t:TypeId} {x y:Value} (h:Bx w b t x y) (o:Obj):Bx (w.alloc o) b t x y:=h.of (Below.heap_alloc _ _ _ h.lt)
theorem Bx.other {w:World} {b:Nat} {t:TypeId} {x y:Value} (h:Bx w b t x y) {a:Addr} (ha:b≠a.block) (v:Value):Bx (w.setCell a v) b t x y:=h.of (Below.heap_setCell _ _ _ _ ha)
theorem Bx.oz {w:World} {b:Nat} {t:TypeId} {x y:Value} (h:Bx w b t x y) {a:Addr} {v:Value} (ha:b≠a.block:=by dsimp only;omega):Bx (w.setCell a v) b t x y:=h.other ha v
theorem Bx.new (w:World) (t:TypeId) (x y:Value):Bx (w.alloc (.cells #[x,y] t)) w.heap.size t x y:=by show(w.heap.push _)[w.heap.size]?=_;simp
theorem Bx.new2 (w:World) (p:Obj) (t:TypeId) (x y:Value):Bx ((w.alloc p).alloc (.cells #[x,y] t)) (w.heap.size+1) t x y:=by have h:=Bx.new (w.alloc p) t x y;rw[World.size_alloc] at h;exact h
theorem Bx.new3 (w:World) (p q:Obj) (t:TypeId) (x y:Value):Bx (((w.alloc p).alloc q).alloc (.cells #[x,y] t)) (w.heap.size+1+1) t x y:=by have h:=Bx.new2 (w.alloc p) q t x y;rw[World.size_alloc] at h;exact h
theorem Bx.drewN {w:World} {b:Nat} {t:TypeId} {x y:Value} (h:Bx w b t x y) (m:Nat):Bx (w.drewN m) b t x y:=h
theorem Bx.set0 {w:World} {b:Nat} {t:TypeId} {x y:Value} (h:Bx w b t x y) (v:Value):Bx (w.setCell ⟨b,0,none⟩ v) b t v y:=Bx.of_row (h.row.set 0 v)
theorem Bx.set1 {w:World} {b:Nat} {t:TypeId} {x y:Value} (h:Bx w b t x y) (v:Value):Bx (w.setCell ⟨b,1,none⟩ v) b t x v:=Bx.of_row (h.row.set 1 v)
theorem Bx.set {w:World} {b:Nat} {t:TypeId} {x y:Value} (h:Bx w b t x y) (u v:Value):Bx ((w.setCell ⟨b,0,none⟩ u).setCell ⟨b,1,none⟩ v) b t u v:=(h.set0 u).set1 v
theorem Bx.all {w:World} {b:Nat} {t:TypeId} {x y:Value} (h:Bx w b t x y):w.cell? ⟨b,0,none⟩=some x/\w.cell? ⟨b,1,none⟩=some y/\(∀ i,w.frozen? ⟨b,i,none⟩=false)/\b<w.heap.size:=⟨h.c0,h.c1,h.fz,h.lt⟩
end Limb
namespace Limb
structure GoesOut (A B:Int) (la kk:Nat) (lp qp:Nat->Int):Prop where
 dl:Dig lp la
 dq:Dig qp (la+1)
 sum:A=B*sumB qp (la+1)+sumB lp la
 lt:sumB lp la<B*(pw kk:Int)
 zero:∀ i,i<kk->qp i=0
structure GoesIn (A B:Int) (la j:Nat) (lp qp:Nat->Int):Prop where
 dl:Dig lp la
 dq:Dig qp (la+1)
 sum:A=B*sumB qp (la+1)+sumB lp la
 lt:B*(qp j*(pw j:Int))+sumB lp la<B*(pw (j+1):Int)
 zero:∀ i,i<j->qp i=0
theorem GoesOut.inner {A B:Int} {la j:Nat} {lp qp:Nat->Int} (h:GoesOut A B la (j+1) lp qp):GoesIn A B la j lp qp :=
 ⟨h.dl,h.dq,h.sum,by rw[h.zero j (by omega),Int.zero_mul,Int.mul_zero,Int.zero_add];exact h.lt,fun i hi=>h.zero i (by omega)⟩
theorem GoesIn.outer {A B:Int} {la j:Nat} {lp qp:Nat->Int} (h:GoesIn A B la j lp qp) (hlt:sumB lp la<B*(pw j:Int)):GoesOut A B la j lp qp:=⟨h.dl,h.dq,h.sum,hlt,h.zero⟩
theorem GoesIn.lt2 {A B:Int} {la j:Nat} {lp qp:Nat->Int} (h:GoesIn A B la j lp qp) (hB:0<B) (hj:j<la+1):sumB lp la<B*(pw (j+1):Int):=by
 have h1:=(h.dq j hj).1;have h2:0<=B*(qp j*(pw j:Int)):=Int.mul_nonneg (by omega) (Int.mul_nonneg h1 (by omega));have:=h.lt;omega
theorem GoesIn.step {A B:Int} {la j:Nat} {lp qp lp':Nat->Int} {g:Int} (h:GoesIn A B la j lp qp) (hB:0<B) (hj:j<la+1) (hg:0<=g) (hd:Dig lp' la) (hs:sumB lp' la=sumB lp la-g*B*(pw j:Int)) :
  qp j+g<1000000000/\GoesIn A B la j lp' (upd qp j (qp j+g)):=by
 have hp:(0:Int)<(pw j:Int):=by have:=pw_pos j;omega
 have h0:=h.dq j hj;have h1:=(sumB_bd hd).1
 have e1:B*((qp j+g)*(pw j:Int))=B*(qp j*(pw j:Int))+g*B*(pw j:Int):=by
  rw[Int.add_mul,Int.mul_add]
  have:B*(g*(pw j:Int))=g*B*(pw j:Int):=by ac_rfl
  omega
 have hlt:=h.lt
 have hq:qp j+g<1000000000:=by
  have h2:B*((qp j+g)*(pw j:Int))<B*(1000000000*(pw j:Int)):=by
   have e2:B*(1000000000*(pw j:Int))=B*(pw (j+1):Int):=by rw[pw_succ,Int.natCast_mul,Int.mul_comm (pw j:Int)];rfl
   omega
  have h3:=Int.lt_of_mul_lt_mul_left h2 (by omega);exact Int.lt_of_mul_lt_mul_right h3 (by omega)
 refine⟨hq,hd,upd_Dig h.dq j ⟨by omega,hq⟩,?_,?_,fun i hi=>by rw[upd_ne _ _ (by omega)];exact h.zero i hi⟩
 ·rw[sumB_upd _ _ hj,hs];have e3:=h.sum
  have e4:B*(sumB qp (la+1)+(qp j+g-qp j)*(pw j:Int))=B*sumB qp (la+1)+g*B*(pw j:Int):=by
   rw[Int.mul_add,show qp j+g-qp j=g by omega]
   have:B*(g*(pw j:Int))=g*B*(pw j:Int):=by ac_rfl
   omega
  omega
 ·rw[upd_same];omega
theorem GoesOut.done {A B:Int} {la:Nat} {lp qp:Nat->Int} (h:GoesOut A B la 0 lp qp) (hB:0<B):sumB qp (la+1)=A/B/\sumB lp la=A%B:=by
 have h1:=(sumB_bd h.dl).1;have h2:=h.lt;rw[pw_zero] at h2;have:=(Int.ediv_emod_unique hB (a:=A) (r:=sumB lp la) (q:=sumB qp (la+1))).2 ⟨by have:=h.sum;omega,h1,by omega⟩;exact⟨this.1.symm,this.2.symm⟩
theorem GoesOut.start {la kk:Nat} {B:Int} {lp:Nat->Int} (hd:Dig lp la) (h:sumB lp la<B*(pw kk:Int)):GoesOut (sumB lp la) B la kk lp (fun _=>0) :=
 ⟨hd,fun i _=>by omega,by rw[sumB_zero (fun _ _=>rfl)];omega,h,fun _ _=>rfl⟩
def shiftF (o:Nat->Int) (k i:Nat):Int:=if i<k then 0 else o (i-k)
theorem shiftF_Dig {o:Nat->Int} {k n:Nat} (h:Dig o n):Dig (shiftF o k) (k+n):=by
 intro i hi;unfold shiftF;split
 ·omega
 ·exact h _ (by omega)
theorem shiftF_sum (o:Nat->Int) (k n:Nat):sumB (shiftF o k) (k+n)=sumB o n*(pw k:Int):=by
 rw[sumB_add,sumB_zero (o:=shiftF o k) (n:=k) fun i hi=>by unfold shiftF;rw[if_pos hi]];rw[sumB_congr (o:=fun i=>shiftF o k (k+i)) (o':=o) fun i hi=>by unfold shiftF;rw[if_neg (by omega),show k+i-k=i by omega]];rw[Int.mul_comm];omega
theorem goes_round {A:Int} {la lb j m:Nat} {lp qp ob:Nat->Int} (db:Dig ob lb) (hlb:lb=m+1) (ht:0<ob m) (h:GoesIn A (sumB ob lb) la j lp qp) (hj:j+lb<=la) (hB:0<sumB ob lb) :
  0<=topF lp la (j+m)/(ob m+1)/\topF lp la (j+m)/(ob m+1)<=999999999/\topF lp la (j+m)/(ob m+1)*sumB ob lb*(pw j:Int)<=sumB lp la:=by
 subst hlb;have b:=(sumB_bd (o:=ob) (n:=m) fun i hi=>db i (by omega)).2;exact goes_guess (L:=sumB lp la) (V:=sumB ob (m+1)) (v:=ob m) (T:=topF lp la (j+m)) (l:=m) (k:=j) (by rw[sumB,Int.add_mul];omega) ht (h.lt2 hB (by omega)) (topF_le h.dl (by omega)) (topF_bd h.dl).1 hB
end Limb
namespace Mono
open Go.RowKit Go.Sort
def cmpM (o:Int) (a b:Nat->Int):Int :=
 if o=1 then (if cmpZ (degM a) (degM b)=0 then lexM a b else cmpZ (degM a) (degM b))
 else if o=2 then (if cmpZ (degM a) (degM b)=0 then (if lexM (revM b) (revM a)=0 then lexM a b else lexM (revM b) (revM a)) else cmpZ (degM a) (degM b))
 else lexM a b
theorem ords_below {B C:Nat} {X Y:World} (h:Ords B X) (hb:Below C X Y) (hC:B+1+1<C):Ords B Y :=
 ⟨(hb.block _ (by omega)).trans h.1,⟨(hb.cell (p:=⟨B+1,0,none⟩) (by show B+1<C;omega)).trans h.2.1.1,(hb.cell (p:=⟨B+1,1,none⟩) (by show B+1<C;omega)).trans h.2.1.2⟩,
  (hb.cell (p:=⟨B+1+1,0,none⟩) (by show B+1+1<C;omega)).trans h.2.2.1,(hb.cell (p:=⟨B+1+1,1,none⟩) (by show B+1+1<C;omega)).trans h.2.2.2⟩
theorem bne_of {x:Int} (h:¬x=0):(x != 0)=true:=by simpa using h
theorem bne_not {x:Int} (h:x=0):(x != 0)=false:=by simpa using h
theorem cmp_one (a b:Nat->Int) (w:World) (ha:Small a) (hb:Small b) :
  Calls Tryz.prog 33 #[.int .u8 1,mvf a,mvf b] w fun e w'=>e=.returned (.int .i64 (cmpM 1 a b))/\Below w.heap.size w w':=by
 have HA:=qh ha;clear ha;have HB:=qh hb;clear hb;have HX:=qh (boxes w 35 a b);go_enter Tryz.func33,Tryz.ntmps33;go_wp2_with fail
 refine(orders_any _).mono ?_;rintro e w1 ⟨rfl,ho,hb1⟩;have A1:=rowBelow HX.o.1 hb1 (by simp;omega);have B1:=rowBelow HX.o.2 hb1 (by simp);have G1:=qh (zk.alloc zj _ |>.alloc (by go_size) _ |>.trans (hb1.mono (by go_size)):Below w.heap.size w w1);simp only[World.size_alloc] at ho;have O1:=qh ho;have lk:=look2 ho.1 1;obtain⟨a10,a11,a12,a13⟩:=rowc A1;obtain⟨b10,b11,b12,b13⟩:=rowc B1;have RA1:=qh A1;have RB1:=qh B1;have LT1:=qh (show w.heap.size+1+1+1+1<w1.heap.size from block_lt_of_cell ho.2.2.1);clear ho hb1 A1 B1;have c0:=O1.o.2.1.1;have c1:=O1.o.2.1.2;have E:=qh (show cmpM 1 a b=if cmpZ (degM a) (degM b)=0 then lexM a b else cmpZ (degM a) (degM b) from rfl);go_wp2_with fail
 refine wp_loop_rounds 3 ?_;rw[rounds_succ];go_wp2_with fail
 refine(graded_any a b _ HA.o HB.o).mono ?_;rintro e w2 ⟨rfl,hb2⟩;have RA2:=qh (rowBelow RA1.o hb2 (by have:=LT1.o;omega));have RB2:=qh (rowBelow RB1.o hb2 (by have:=LT1.o;omega));have G2:=qh (G1.o.trans (hb2.mono G1.o.size));have O2:=qh (ords_below O1.o hb2 (by have:=LT1.o;omega));have LT2:=qh (Nat.lt_of_lt_of_le LT1.o hb2.size);obtain⟨a20,a21,a22,a23⟩:=rowc RA2.o;obtain⟨b20,b21,b22,b23⟩:=rowc RB2.o;clear hb2;clear c0 c1;have c0:=O2.o.2.1.1;have c1:=O2.o.2.1.2;by_cases z:cmpZ (degM a) (degM b)=0
 ·have Z:=qh z;have zb:=bne_not z;clear z;go_wp2_with fail
  rw[rounds_succ];go_wp2_with fail
  refine(lexical_any a b _).mono ?_;rintro e w3 ⟨rfl,hb3⟩;have RA3:=qh (rowBelow RA2.o hb3 (by have:=LT2.o;omega));have RB3:=qh (rowBelow RB2.o hb3 (by have:=LT2.o;omega));have G3:=qh (G2.o.trans (hb3.mono G2.o.size));have O3:=qh (ords_below O2.o hb3 (by have:=LT2.o;omega));have LT3:=qh (Nat.lt_of_lt_of_le LT2.o hb3.size);obtain⟨a30,a31,a32,a33⟩:=rowc RA3.o;obtain⟨b30,b31,b32,b33⟩:=rowc RB3.o;clear hb3;clear c0 c1;by_cases y:lexM a b=0
  ·have yb:=bne_not y;have Y:=qh y;clear y;go_wp2_with fail
   rw[rounds_succ];go_wp2_with fail
   refine(lexical_any a b _).mono ?_;rintro e w4 ⟨rfl,hb4⟩;have RA4:=qh (rowBelow RA3.o hb4 (by have:=LT3.o;omega));have RB4:=qh (rowBelow RB3.o hb4 (by have:=LT3.o;omega));have G4:=qh (G3.o.trans (hb4.mono G3.o.size));have O4:=qh (ords_below O3.o hb4 (by have:=LT3.o;omega));have LT4:=qh (Nat.lt_of_lt_of_le LT3.o hb4.size);obtain⟨a40,a41,a42,a43⟩:=rowc RA4.o;obtain⟨b40,b41,b42,b43⟩:=rowc RB4.o;clear hb4;go_wp2;go_ret;exact⟨by rw[E.o,if_pos Z.o];rfl,G4.o⟩
  ·have yb:=bne_of y;clear y;go_wp2;go_ret;exact⟨by rw[E.o,if_pos Z.o];rfl,G3.o⟩
 ·have zb:=bne_of z;have Z:=qh z;clear z;go_wp2;go_ret;exact⟨by rw[E.o,if_neg Z.o];rfl,G2.o⟩
theorem cmp_two (a b:Nat->Int) (w:World) (ha:Small a) (hb:Small b) :
  Calls Tryz.prog 33 #[.int .u8 2,mvf a,mvf b] w fun e w'=>e=.returned (.int .i64 (cmpM 2 a b))/\Below w.heap.size w w':=by
 have HA:=qh ha;clear ha;have HB:=qh hb;clear hb;have HX:=qh (boxes w 35 a b);go_enter Tryz.func33,Tryz.ntmps33;go_wp2_with fail
 refine(orders_any _).mono ?_;rintro e w1 ⟨rfl,ho,hb1⟩;have A1:=rowBelow HX.o.1 hb1 (by simp;omega);have B1:=rowBelow HX.o.2 hb1 (by simp);have G1:=qh (zk.alloc zj _ |>.alloc (by go_size) _ |>.trans (hb1.mono (by go_size)):Below w.heap.size w w1);simp only[World.size_alloc] at ho;have O1:=qh ho;have lk:=look2 ho.1 2;obtain⟨a10,a11,a12,a13⟩:=rowc A1;obtain⟨b10,b11,b12,b13⟩:=rowc B1;have RA1:=qh A1;have RB1:=qh B1;have LT1:=qh (show w.heap.size+1+1+1+1<w1.heap.size from block_lt_of_cell ho.2.2.1);clear ho hb1 A1 B1;have c0:=O1.o.2.2.1;have c1:=O1.o.2.2.2;have E:=qh (show cmpM 2 a b=if cmpZ (degM a) (degM b)=0 then (if lexM (revM b) (revM a)=0 then lexM a b else lexM (revM b) (revM a)) else cmpZ (degM a) (degM b) from rfl);go_wp2_with fail
 refine wp_loop_rounds 3 ?_;rw[rounds_succ];go_wp2_with fail
 refine(graded_any a b _ HA.o HB.o).mono ?_;rintro e w2 ⟨rfl,hb2⟩;have RA2:=qh (rowBelow RA1.o hb2 (by have:=LT1.o;omega));have RB2:=qh (rowBelow RB1.o hb2 (by have:=LT1.o;omega));have G2:=qh (G1.o.trans (hb2.mono G1.o.size));have O2:=qh (ords_below O1.o hb2 (by have:=LT1.o;omega));have LT2:=qh (Nat.lt_of_lt_of_le LT1.o hb2.size);obtain⟨a20,a21,a22,a23⟩:=rowc RA2.o;obtain⟨b20,b21,b22,b23⟩:=rowc RB2.o;clear hb2;clear c0 c1;have c0:=O2.o.2.2.1;have c1:=O2.o.2.2.2;by_cases z:cmpZ (degM a) (degM b)=0
 ·have Z:=qh z;have zb:=bne_not z;clear z;go_wp2_with fail
  rw[rounds_succ];go_wp2_with fail
  refine(backward_any a b _).mono ?_;rintro e w3 ⟨rfl,hb3⟩;have RA3:=qh (rowBelow RA2.o hb3 (by have:=LT2.o;omega));have RB3:=qh (rowBelow RB2.o hb3 (by have:=LT2.o;omega));have G3:=qh (G2.o.trans (hb3.mono G2.o.size));have O3:=qh (ords_below O2.o hb3 (by have:=LT2.o;omega));have LT3:=qh (Nat.lt_of_lt_of_le LT2.o hb3.size);obtain⟨a30,a31,a32,a33⟩:=rowc RA3.o;obtain⟨b30,b31,b32,b33⟩:=rowc RB3.o;clear hb3;clear c0 c1;by_cases y:lexM (revM b) (revM a)=0
  ·have yb:=bne_not y;have Y:=qh y;clear y;go_wp2_with fail
   rw[rounds_succ];go_wp2_with fail
   refine(lexical_any a b _).mono ?_;rintro e w4 ⟨rfl,hb4⟩;have RA4:=qh (rowBelow RA3.o hb4 (by have:=LT3.o;omega));have RB4:=qh (rowBelow RB3.o hb4 (by have:=LT3.o;omega));have G4:=qh (G3.o.trans (hb4.mono G3.o.size));have O4:=qh (ords_below O3.o hb4 (by have:=LT3.o;omega));have LT4:=qh (Nat.lt_of_lt_of_le LT3.o hb4.size);obtain⟨a40,a41,a42,a43⟩:=rowc RA4.o;obtain⟨b40,b41,b42,b43⟩:=rowc RB4.o;clear hb4;go_wp2;go_ret;exact⟨by rw[E.o,if_pos Z.o,if_pos Y.o];rfl,G4.o⟩
  ·have yb:=bne_of y;have Y:=qh y;clear y;go_wp2;go_ret;exact⟨by rw[E.o,if_pos Z.o,if_neg Y.o];rfl,G3.o⟩
 ·have zb:=bne_of z;have Z:=qh z;clear z;go_wp2;go_ret;exact⟨by rw[E.o,if_neg Z.o];rfl,G2.o⟩
theorem cmp_else (a b:Nat->Int) (o:Int) (h1:(o==1)=false) (h2:(o==2)=false) (w:World) (ha:Small a) (hb:Small b) :
  Calls Tryz.prog 33 #[.int .u8 o,mvf a,mvf b] w fun e w'=>e=.returned (.int .i64 (cmpM o a b))/\Below w.heap.size w w':=by
 have HA:=qh ha;clear ha;have HB:=qh hb;clear hb;have HX:=qh (boxes w 35 a b);go_enter Tryz.func33,Tryz.ntmps33;go_wp2_with fail
 refine(orders_any _).mono ?_;rintro e w1 ⟨rfl,ho,hb1⟩;have A1:=rowBelow HX.o.1 hb1 (by simp;omega);have B1:=rowBelow HX.o.2 hb1 (by simp);have G1:=qh (zk.alloc zj _ |>.alloc (by go_size) _ |>.trans (hb1.mono (by go_size)):Below w.heap.size w w1);simp only[World.size_alloc] at ho;have O1:=qh ho;have lk:=look2 ho.1 o;obtain⟨a10,a11,a12,a13⟩:=rowc A1;obtain⟨b10,b11,b12,b13⟩:=rowc B1;have RA1:=qh A1;have RB1:=qh B1;have LT1:=qh (show w.heap.size+1+1+1+1<w1.heap.size from block_lt_of_cell ho.2.2.1);clear ho hb1 A1 B1;have E:=qh (show cmpM o a b=lexM a b by unfold cmpM;rw[if_neg (by simpa using h1),if_neg (by simpa using h2)]);simp only[h1,h2,Bool.false_eq_true,if_false] at lk;clear h1 h2;go_wp2_with fail
 refine wp_loop_rounds 1 ?_;rw[rounds_succ];go_wp2_with fail
 refine(lexical_any a b _).mono ?_;rintro e w2 ⟨rfl,hb2⟩;have RA2:=qh (rowBelow RA1.o hb2 (by have:=LT1.o;omega));have RB2:=qh (rowBelow RB1.o hb2 (by have:=LT1.o;omega));have G2:=qh (G1.o.trans (hb2.mono G1.o.size));have O2:=qh (ords_below O1.o hb2 (by have:=LT1.o;omega));have LT2:=qh (Nat.lt_of_lt_of_le LT1.o hb2.size);obtain⟨a20,a21,a22,a23⟩:=rowc RA2.o;obtain⟨b20,b21,b22,b23⟩:=rowc RB2.o;clear hb2;go_wp2;go_ret;exact⟨by rw[E.o];rfl,G2.o⟩
theorem cmp_any (o:Int) (a b:Nat->Int) (w:World) (ha:Small a) (hb:Small b) :
  Calls Tryz.prog 33 #[.int .u8 o,mvf a,mvf b] w fun e w'=>e=.returned (.int .i64 (cmpM o a b))/\Below w.heap.size w w':=by
 by_cases h1:o=1
 ·subst h1;exact cmp_one a b w ha hb
 ·by_cases h2:o=2
  ·subst h2;exact cmp_two a b w ha hb
  ·exact cmp_else a b o (by simpa using h1) (by simpa using h2) w ha hb
end Mono
namespace Pol
structure Mo where
 x:Nat
 y:Nat
 z:Nat
 t:Nat
theorem Mo.eq_iff (a b:Mo):a=b↔a.x=b.x/\a.y=b.y/\a.z=b.z/\a.t=b.t:=by
 constructor
 ·rintro rfl;exact⟨rfl,rfl,rfl,rfl⟩
 ·rintro⟨h1,h2,h3,h4⟩;cases a;cases b;simp_all
instance:DecidableEq Mo:=fun a b=>decidable_of_iff _ (Mo.eq_iff a b).symm
def Mo.one:Mo:=⟨0,0,0,0⟩
def Mo.mul (a b:Mo):Mo:=⟨a.x+b.x,a.y+b.y,a.z+b.z,a.t+b.t⟩
theorem Mo.mul_comm (a b:Mo):a.mul b=b.mul a:=by simp only[Mo.mul,Mo.mk.injEq];omega
theorem Mo.mul_assoc (a b c:Mo):(a.mul b).mul c=a.mul (b.mul c):=by simp only[Mo.mul,Mo.mk.injEq];omega
theorem Mo.one_mul (a:Mo):Mo.one.mul a=a:=by simp only[Mo.mul,Mo.one,Nat.zero_add]
theorem Mo.mul_one (a:Mo):a.mul Mo.one=a:=by simp only[Mo.mul,Mo.one,Nat.add_zero]
theorem Mo.mul_left_cancel {a b c:Mo} (h:a.mul b=a.mul c):b=c:=by
 simp only[Mo.mul,Mo.mk.injEq] at h;rw[Mo.eq_iff];omega
def Mo.lt (a b:Mo):Prop:=a.x<b.x\/(a.x=b.x/\(a.y<b.y\/(a.y=b.y/\(a.z<b.z\/(a.z=b.z/\a.t<b.t)))))
instance (a b:Mo):Decidable (a.lt b):=by unfold Mo.lt;infer_instance
theorem Mo.lt_irrefl (a:Mo):¬a.lt a:=by unfold Mo.lt;omega
theorem Mo.lt_trans {a b c:Mo} (h:a.lt b) (k:b.lt c):a.lt c:=by unfold Mo.lt at *;omega
theorem Mo.lt_asymm {a b:Mo} (h:a.lt b):¬b.lt a:=by unfold Mo.lt at *;omega
theorem Mo.lt_or (a b:Mo):a.lt b\/a=b\/b.lt a:=by rw[Mo.eq_iff];unfold Mo.lt;omega
abbrev Tm:=Mo × Rat
def ev:List Tm->(Mo->Rat)->Rat
 | [],_=>0
 | t :: r,f=>t.2*f t.1+ev r f
theorem ev_nil (f:Mo->Rat):ev [] f=0:=rfl
theorem ev_cons (t:Tm) (r:List Tm) (f:Mo->Rat):ev (t :: r) f=t.2*f t.1+ev r f:=rfl
theorem ev_append (l r:List Tm) (f:Mo->Rat):ev (l++r) f=ev l f+ev r f:=by
 induction l with
 | nil=>rw[ze,ev_nil,Rat.zero_add]
 | cons t l ih=>rw[zi,ev_cons,ev_cons,ih,Rat.add_assoc]
theorem ev_congr {l:List Tm} {f g:Mo->Rat} (h:∀ t∈l,f t.1=g t.1):ev l f=ev l g:=by
 induction l with
 | nil=>rfl
 | cons t l ih=>rw[ev_cons,ev_cons,h t (List.mem_cons_self ..),ih fun s hs=>h s (List.mem_cons_of_mem _ hs)]
theorem ev_perm {l r:List Tm} (h:l.Perm r) (f:Mo->Rat):ev l f=ev r f:=by
 induction h with
 | nil=>rfl
 | cons t _ ih=>rw[ev_cons,ev_cons,ih]
 | swap s t l=>rw[ev_cons,ev_cons,ev_cons,ev_cons];grind
 | trans _ _ h1 h2=>rw[h1,h2]
theorem ev_zero (l:List Tm):ev l (fun _=>0)=0:=by
 induction l with
 | nil=>rfl
 | cons t l ih=>rw[ev_cons,ih];grind
theorem ev_smul (l:List Tm) (c:Rat) (f:Mo->Rat):ev l (fun m=>c*f m)=c*ev l f:=by
 induction l with
 | nil=>rw[ev_nil,ev_nil,Rat.mul_zero]
 | cons t l ih=>rw[ev_cons,ev_cons,ih];grind
def at_ (m:Mo):Mo->Rat:=fun a=>if a=m then 1 else 0
def cf (l:List Tm) (m:Mo):Rat:=ev l (at_ m)
theorem cf_cons (t:Tm) (r:List Tm) (m:Mo):cf (t :: r) m=(if t.1=m then t.2 else 0)+cf r m:=by
 unfold cf;rw[ev_cons];unfold at_;split <;> grind
theorem cf_append (l r:List Tm) (m:Mo):cf (l++r) m=cf l m+cf r m:=ev_append l r _
theorem cf_none {l:List Tm} {m:Mo} (h:∀ t∈l,t.1≠m):cf l m=0:=by
 unfold cf;rw[ev_congr (g:=fun _=>0) fun t ht=>by unfold at_;rw[if_neg (h t ht)],ev_zero]
theorem once:∀ (L:List Mo),∃ S:List Mo,S.Nodup/\∀ m∈L,m∈S
 | []=>⟨[],List.nodup_nil,fun _ h=>h⟩
 | m :: L=>by
  obtain⟨S,h1,h2⟩:=once L;by_cases h:m∈S
  ·exact⟨S,h1,fun k hk=>(List.mem_cons.1 hk).elim (fun e=>e▸h) (h2 k)⟩
  ·exact⟨m :: S,List.nodup_cons.2 ⟨h,h1⟩,fun k hk=>(List.mem_cons.1 hk).elim (fun e=>e▸List.mem_cons_self ..) (fun hk=>List.mem_cons_of_mem _ (h2 k hk))⟩
structure Canon (l:List Tm):Prop where
 falls:l.Pairwise (fun s t=>t.1.lt s.1)
 non:∀ t∈l,t.2≠0
theorem Canon.nil:Canon []:=⟨List.Pairwise.nil,fun _ h=>(by cases h)⟩
theorem Canon.tail {t:Tm} {r:List Tm} (h:Canon (t :: r)):Canon r:=⟨(List.pairwise_cons.1 h.falls).2,fun s hs=>h.non s (List.mem_cons_of_mem _ hs)⟩
theorem Canon.head {t:Tm} {r:List Tm} (h:Canon (t :: r)):∀ s∈r,s.1.lt t.1:=(List.pairwise_cons.1 h.falls).1
theorem Canon.cf_head {t:Tm} {r:List Tm} (h:Canon (t :: r)):cf (t :: r) t.1=t.2:=by
 rw[cf_cons,if_pos rfl,cf_none fun s hs e=>by have:=h.head s hs;rw[e] at this;exact Mo.lt_irrefl _ this,Rat.add_zero]
theorem Canon.cf_gt {t:Tm} {r:List Tm} (h:Canon (t :: r)) {m:Mo} (hm:t.1.lt m):cf (t :: r) m=0 :=
 cf_none fun s hs e=>by
  rcases List.mem_cons.1 hs with rfl | hs
  ·rw[e] at hm;exact Mo.lt_irrefl _ hm
  ·have:=h.head s hs;rw[e] at this;exact Mo.lt_asymm this hm
theorem Canon.uniq:∀ {l r:List Tm},Canon l->Canon r->(∀ m,cf l m=cf r m)->l=r
 | [],[],_,_,_=>rfl
 | [],t :: r,_,h,e=>by
  have:=e t.1;rw[h.cf_head] at this
  exact absurd this.symm (h.non t (List.mem_cons_self ..))
 | t :: l,[],h,_,e=>by
  have:=e t.1;rw[h.cf_head] at this
  exact absurd this (h.non t (List.mem_cons_self ..))
 | s :: l,t :: r,h,k,e=>by
  rcases Mo.lt_or s.1 t.1 with hlt | heq | hgt
  ·have:=e t.1;rw[k.cf_head,h.cf_gt hlt] at this;exact absurd this.symm (k.non t (List.mem_cons_self ..))
  ·have h1:=e s.1;rw[h.cf_head,heq,k.cf_head] at h1;have hst:s=t:=Prod.ext heq h1;subst hst
   have:=Canon.uniq h.tail k.tail fun m=>by
    have:=e m;rw[cf_cons,cf_cons] at this;grind
   rw[this]
  ·have:=e s.1;rw[h.cf_head,k.cf_gt hgt] at this;exact absurd this (h.non s (List.mem_cons_self ..))
theorem Canon.cf_mem {l:List Tm} (h:Canon l) {t:Tm} (ht:t∈l):cf l t.1=t.2:=by
 induction l with
 | nil=>cases ht
 | cons s l ih =>
  rcases List.mem_cons.1 ht with rfl | ht'
  ·exact h.cf_head
  ·rw[cf_cons,if_neg (fun e=>by have:=h.head t ht';rw[e] at this;exact Mo.lt_irrefl _ this),ih h.tail ht',Rat.zero_add]
theorem Canon.mem_cf {l:List Tm} {m:Mo} (e:cf l m≠0):∃ c,(m,c)∈l:=by
 refine Classical.byContradiction fun hn=>e (cf_none fun t ht he=>hn ⟨t.2,?_⟩)
 rw[<- he];exact ht
end Pol
namespace Pol
def ins (t:Tm):List Tm->List Tm
 | []=>if t.2=0 then [] else [t]
 | s :: r=>if t.1=s.1 then (if t.2+s.2=0 then r else (s.1,t.2+s.2) :: r) else if s.1.lt t.1 then (if t.2=0 then s :: r else t :: s :: r) else s :: ins t r
theorem ins_mem {t u:Tm}:∀ {l:List Tm},u∈ins t l->u.1=t.1\/u∈l
 | [],h=>by
  unfold ins at h;split at h
  ·cases h
  ·exact .inl (by rw[List.mem_singleton.1 h])
 | s :: r,h=>by
  unfold ins at h;split at h
  ·rename_i e;split at h
   ·exact .inr (List.mem_cons_of_mem _ h)
   ·rcases List.mem_cons.1 h with h | h
    ·exact .inl (by rw[h,e])
    ·exact .inr (List.mem_cons_of_mem _ h)
  ·split at h
   ·split at h
    ·exact .inr h
    ·rcases List.mem_cons.1 h with h | h
     ·exact .inl (by rw[h])
     ·exact .inr h
   ·rcases List.mem_cons.1 h with h | h
    ·exact .inr (by rw[h];exact List.mem_cons_self ..)
    ·exact(ins_mem h).imp id (List.mem_cons_of_mem _)
theorem ins_canon (t:Tm):∀ {l:List Tm},Canon l->Canon (ins t l)
 | [],_=>by
  unfold ins;split
  ·exact Canon.nil
  ·rename_i h;exact⟨List.pairwise_singleton _ _,fun s hs=>by rw[List.mem_singleton.1 hs];exact h⟩
 | s :: r,h=>by
  unfold ins;split
  ·split
   ·exact h.tail
   ·rename_i h0;exact⟨List.pairwise_cons.2 ⟨h.head,h.tail.falls⟩,fun u hu=>(List.mem_cons.1 hu).elim (fun e=>by rw[e];exact h0) (fun hu=>h.tail.non u hu)⟩
  ·rename_i hne;split
   ·rename_i hlt;split
    ·exact h
    ·rename_i h0;refine⟨List.pairwise_cons.2 ⟨fun u hu=>?_,h.falls⟩,fun u hu=>(List.mem_cons.1 hu).elim (fun e=>by rw[e];exact h0) (fun hu=>h.non u hu)⟩
     rcases List.mem_cons.1 hu with rfl | hu
     ·exact hlt
     ·exact Mo.lt_trans (h.head u hu) hlt
   ·rename_i hnl
    have hgt:t.1.lt s.1:=((Mo.lt_or s.1 t.1).resolve_left fun k=>hnl k).resolve_left fun e=>hne e.symm
    have k:=ins_canon t h.tail;refine⟨List.pairwise_cons.2 ⟨fun u hu=>?_,k.falls⟩,fun u hu=>(List.mem_cons.1 hu).elim (fun e=>by rw[e];exact h.non s (List.mem_cons_self ..)) (fun hu=>k.non u hu)⟩
    rcases ins_mem hu with e | hu
    ·rw[e];exact hgt
    ·exact h.head u hu
theorem ins_ev (t:Tm) (f:Mo->Rat):∀ (l:List Tm),ev (ins t l) f=t.2*f t.1+ev l f
 | []=>by
  unfold ins;split
  ·rename_i h;rw[h,ev_nil];grind
  ·rw[ev_cons]
 | s :: r=>by
  unfold ins;split
  ·rename_i e;split
   ·rename_i h0
    have h0:t.2 = - s.2:=by grind
    rw[ev_cons,e,h0];grind
   ·rw[ev_cons,ev_cons,e];grind
  ·split
   ·split
    ·rename_i h0;rw[h0];grind
    ·rw[ev_cons]
   ·rw[ev_cons,ev_cons,ins_ev t f r];grind
def nf (l:List Tm):List Tm:=l.foldr ins []
theorem nf_canon:∀ (l:List Tm),Canon (nf l)
 | []=>Canon.nil
 | t :: l=>ins_canon t (nf_canon l)
theorem nf_ev (f:Mo->Rat):∀ (l:List Tm),ev (nf l) f=ev l f
 | []=>rfl
 | t :: l=>by show ev (ins t (nf l)) f=_;rw[ins_ev,nf_ev f l,ev_cons]
theorem nf_cf (l:List Tm) (m:Mo):cf (nf l) m=cf l m:=nf_ev _ l
theorem nf_eq {l r:List Tm} (hl:Canon l) (h:∀ m,cf l m=cf r m):nf r=l:=(Canon.uniq hl (nf_canon r) fun m=>by rw[h m,nf_cf]).symm
theorem nf_self {l:List Tm} (h:Canon l):nf l=l:=nf_eq h fun _=>rfl
theorem nf_same {l r:List Tm} (h:∀ f,ev l f=ev r f):nf l=nf r:=nf_eq (nf_canon r) fun m=>by rw[nf_cf];exact(h _).symm
def scaleL (c:Rat) (l:List Tm):List Tm:=l.map fun t=>(t.1,t.2*c)
def mulL (p q:List Tm):List Tm:=p.flatMap fun s=>q.map fun t=>(s.1.mul t.1,s.2*t.2)
theorem ev_scaleL (c:Rat) (l:List Tm) (f:Mo->Rat):ev (scaleL c l) f=c*ev l f:=by
 induction l with
 | nil=>show(0:Rat)=c*0;grind
 | cons t l ih=>show t.2*c*f t.1+ev (scaleL c l) f=_;rw[ih,ev_cons];grind
theorem ev_row (s:Tm) (q:List Tm) (f:Mo->Rat):ev (q.map fun t=>(s.1.mul t.1,s.2*t.2)) f=s.2*ev q (fun b=>f (s.1.mul b)):=by
 induction q with
 | nil=>show(0:Rat)=s.2*0;grind
 | cons t q ih=>rw[List.map_cons,ev_cons,ih,ev_cons];grind
theorem ev_mulL (p q:List Tm) (f:Mo->Rat):ev (mulL p q) f=ev p (fun a=>ev q (fun b=>f (a.mul b))):=by
 induction p with
 | nil=>rfl
 | cons s p ih=>show ev ((q.map _)++mulL p q) f=_;rw[ev_append,ih,ev_row,ev_cons]
def addP (p q:List Tm):List Tm:=nf (p++q)
def scaleP (c:Rat) (p:List Tm):List Tm:=nf (scaleL c p)
def mulP (p q:List Tm):List Tm:=nf (mulL p q)
def subP (p q:List Tm):List Tm:=addP p (scaleP (-1) q)
theorem ev_addP (p q:List Tm) (f:Mo->Rat):ev (addP p q) f=ev p f+ev q f:=by unfold addP;rw[nf_ev,ev_append]
theorem ev_scaleP (c:Rat) (p:List Tm) (f:Mo->Rat):ev (scaleP c p) f=c*ev p f:=by unfold scaleP;rw[nf_ev,ev_scaleL]
theorem ev_mulP (p q:List Tm) (f:Mo->Rat):ev (mulP p q) f=ev p (fun a=>ev q (fun b=>f (a.mul b))):=by unfold mulP;rw[nf_ev,ev_mulL]
theorem ev_subP (p q:List Tm) (f:Mo->Rat):ev (subP p q) f=ev p f-ev q f:=by unfold subP;rw[ev_addP,ev_scaleP];grind
theorem addP_canon (p q:List Tm):Canon (addP p q):=nf_canon _
theorem scaleP_canon (c:Rat) (q:List Tm):Canon (scaleP c q):=nf_canon _
theorem mulP_canon (p q:List Tm):Canon (mulP p q):=nf_canon _
theorem subP_canon (p q:List Tm):Canon (subP p q):=nf_canon _
theorem canon_same {p q:List Tm} (hp:Canon p) (hq:Canon q) (h:∀ f,ev p f=ev q f):p=q:=Canon.uniq hp hq fun _=>h _
end Pol
namespace Limb
open Go.RowKit Go.Sort
theorem of_facts (s:Bool) (n:Nat) (o:Nat->Int) (h:okN s n o) (h0:∀ i,i<n->0<=o i/\o i<=4294967295) :
  decide (valN s n o<0)=s/\lenB (valN s n o).natAbs=n/\∀ i,i<n->o i=dgi (valN s n o).natAbs i :=
 have h1:∀ i,i<n->0<=o i:=fun i hi=>(h0 i hi).1
 ⟨valN_neg h h1,valN_len h h1,fun i hi=>(valN_dg h h1 i hi).symm⟩
open Classical in
theorem of_any (s:Bool) (a:Option Addr) (n cap:Nat) (o:Nat->Int) (w:World) (h:Rd w a n o) (hn:n<=1000000000) (hcap:n<=cap) :
  ∃ a' cap',Rd w a' (lenB (valN s n o).natAbs) (dgi (valN s n o).natAbs)/\lenB (valN s n o).natAbs<=n/\lenB (valN s n o).natAbs<=cap' /\
   ∀ w1,Below w.heap.size w w1->Calls Tryz.prog 165 #[numV s a n cap] w1 fun e w'=>e=.returned (numV (decide (valN s n o<0)) a' (lenB (valN s n o).natAbs) cap')/\Below w1.heap.size w1 w':=by
 by_cases hk:okN s n o
 ·obtain⟨f1,f2,f3⟩:=of_facts s n o hk h.rng;rw[f1,f2];refine⟨a,cap,h.congr f3,zj,hcap,fun w1 hb1=>?_⟩;have C:=qh (fun (w2:World) (hw:Below w1.heap.size w1 w2)=>check_any s a n cap o w2 (h.below (hb1.trans (hw.mono hb1.size))) hn);rw[decide_eq_true hk] at C;clear h f1 f2 f3 hk hb1;go_enter Tryz.func165,Tryz.ntmps165;go_wp2_with fail
  refine(C.o _ ?_).mono ?_
  ·exact qg
  rintro e w2 ⟨rfl,hb2⟩;have B1:=((Bx.new w1 30 (.bool s) (.slice a n cap)).alloc (.cells #[.bool false,.slice none 0 0] 30)).below hb2 (by simp;omega);have B2:=(Bx.new2 w1 (.cells #[.bool s,.slice a n cap] 30) 30 (.bool false) (.slice none 0 0)).below hb2 (by simp);have hb0:Below w1.heap.size w1 w2:=(zk.alloc zj _ |>.alloc (by go_size) _).trans (hb2.mono (by go_size));obtain⟨b10,b11,b12,b13⟩:=B1.all;obtain⟨b20,b21,b22,b23⟩:=B2.all;have HB:=qh B2;clear hb2 B1 B2;go_wp2;refine bodyPost_ret (results_cell rfl _ _ _ _ _ _ _ rfl (HB.o.set _ _) Tryz.underlying30 rfl (by kernel_rfl)) rfl ⟨rfl,?_⟩;exact qg
 ·rw[show valN s n o=0 from valN_not hk];rw[show(Int.natAbs 0)=0 from rfl,lenB_zero,show decide ((0:Int)<0)=false from rfl];refine⟨none,0,Rd.nil _ _ _,Nat.zero_le _,zj,fun w1 hb1=>?_⟩;have C:=qh (fun (w2:World) (hw:Below w1.heap.size w1 w2)=>check_any s a n cap o w2 (h.below (hb1.trans (hw.mono hb1.size))) hn);rw[zo hk] at C;clear h hk hb1;go_enter Tryz.func165,Tryz.ntmps165;go_wp2_with fail
  refine(C.o _ ?_).mono ?_
  ·exact qg
  rintro e w2 ⟨rfl,hb2⟩;have B2:=(Bx.new2 w1 (.cells #[.bool s,.slice a n cap] 30) 30 (.bool false) (.slice none 0 0)).below hb2 (by simp);have hb0:Below w1.heap.size w1 w2:=(zk.alloc zj _ |>.alloc (by go_size) _).trans (hb2.mono (by go_size));obtain⟨b20,b21,b22,b23⟩:=B2.all;have HB:=qh B2;clear hb2 B2;go_wp2;refine bodyPost_ret (results_cell rfl _ _ _ _ _ _ _ rfl (HB.o.set _ _) Tryz.underlying30 rfl (by kernel_rfl)) rfl ⟨rfl,?_⟩;exact qg
theorem lenB_le_of {o:Nat->Int} {n:Nat} (h:Dig o n):lenB (sumB o n).toNat<=n:=lenB_le (by have:=sumB_bd h;omega)
theorem cut_zero {o:Nat->Int} {n i:Nat} (h:Dig o n) (h1:lenB (sumB o n).toNat<=i) (h2:i<n):o i=0:=by
 rw[<- dg_sumB h i h2,dg_out h1];rfl
theorem cut_last {o:Nat->Int} {n:Nat} (h:Dig o n) (h1:0<lenB (sumB o n).toNat):o (lenB (sumB o n).toNat-1)≠0:=by
 have h2:=lenB_le_of h;rw[<- dg_sumB h _ (by omega)];have:=dg_last (m:=(sumB o n).toNat) (fun e=>by rw[e,lenB_zero] at h1;omega);omega
theorem cut_any (s:Bool) (a:Option Addr) (n cap:Nat) (o:Nat->Int) (w:World) (h:Rd w a n o) (hd:Dig o n) (hn:n<=1000000000) (hcap:n<=cap) (ha:a=none->cap=0) :
  Calls Tryz.prog 166 #[.bool s,.slice a n cap] w fun e w'=>e=.returned (numV (s&&decide (0<lenB (sumB o n).toNat)) a (lenB (sumB o n).toNat) (lenB (sumB o n).toNat))/\Below w.heap.size w w':=by
 have HL:=qh (lenB_le_of hd);have HZ:=qh (fun i=>cut_zero (i:=i) hd);have HT:=qh (cut_last hd)
 generalize lenB (sumB o n).toNat=L at HL HZ HT ⊢
 clear hd;have hsz:=h.rng;have B0:=qh (Bx.new w 30 (.bool false) (.slice none 0 0));go_enter Tryz.func166,Tryz.ntmps166;go_wp2;go_loopw [5] (fun i wr=>∃ j:Nat,L<=j/\j<=n/\i=.int .i64 j/\∃ m,wr=(w.alloc (.cells #[.bool false,.slice none 0 0] 30)).drewN m) (fun i _=>(intOf i).toNat)
 case atStart=>exact⟨n,HL.o,zj,rfl,0,rfl⟩
 case round =>
  obtain⟨j,hj,hjn,rfl,m0,rfl⟩:=hrel;by_cases hj0:j=0
  ·obtain rfl:L=0:=by omega
   subst hj0;have B1:=B0.o.drewN m0;obtain⟨b10,b11,b12,b13⟩:=B1.all;have HB:=qh B1;clear B1
   cases s with
   | false =>
    go_wp2
    all_goals
     refine bodyPost_ret (results_cell rfl _ _ _ _ _ _ _ rfl (HB.o.set _ _) Tryz.underlying30 rfl (by kernel_rfl)) rfl ⟨rfl,?_⟩
     exact qg
   | true =>
    go_wp2
    all_goals
     refine bodyPost_ret (results_cell rfl _ _ _ _ _ _ _ rfl (HB.o.set _ _) Tryz.underlying30 rfl (by kernel_rfl)) rfl ⟨rfl,?_⟩;exact qg
  ·obtain⟨q,rfl⟩:∃ q,j=q+1:=⟨j-1,by omega⟩;obtain⟨b,off,rfl,hc⟩:=h.cells (by omega);have c1:=hc q (by omega);have hb:b<w.heap.size:=block_lt_of_cell c1
   have ex:((q+1:Nat):Int)-1=(q:Int):=by omega
   by_cases hjL:q+1=L
   ·subst hjL;have hz:o q≠0:=HT.o (by omega)
    have hzb:(o q==0)=false:=by simpa using hz
    have hq:((q+1:Nat):Int)>0:=by omega
    have D:=qh (show decide (0<q+1)=true by simp);have B1:=B0.o.drewN m0;obtain⟨b10,b11,b12,b13⟩:=B1.all;have HB:=qh B1;clear B1
    cases s with
    | false =>
     go_wp2
     all_goals
      refine bodyPost_ret (results_cell rfl _ _ _ _ _ _ _ rfl (HB.o.set _ _) Tryz.underlying30 rfl (by kernel_rfl)) rfl ⟨rfl,?_⟩
      exact qg
    | true =>
     go_wp2
     all_goals
      refine bodyPost_ret (results_cell rfl _ _ _ _ _ _ _ rfl (HB.o.set _ _) Tryz.underlying30 rfl (by kernel_rfl)) rfl ⟨by rw[D.o];rfl,?_⟩;exact qg
   ·have hz:=HZ.o q (by omega) (by omega);go_wp2;go_roundw
    case rel=>exact⟨q,by omega,by omega,rfl,m0,rfl⟩
    case measure=>simp[intOf]
end Limb
end Go.Proofs.YthacfgmdihcffaaGreatDoor
