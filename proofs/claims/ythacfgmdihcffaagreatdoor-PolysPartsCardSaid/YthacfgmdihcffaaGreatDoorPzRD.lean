/-
  Rows of terms that a law has made, and a Book's marks of terms.
-/
import Derived.Test.YthacfgmdihcffaaGreatDoorPzRC
import Derived.Laws.OwnMore
import Derived.Deep.DeepCutAuto
set_option linter.unusedSimpArgs false
set_option linter.unusedVariables false
set_option maxHeartbeats 16000000
set_option maxRecDepth 100000
namespace Go.Proofs.YthacfgmdihcffaaGreatDoor
namespace Limb
open Go.RowKit Go.Sort Go.Fresh
theorem order_any (x y:Nat) (a b:Option Addr) (ca cb:Nat) (w:World) (ha:Rd w a (lenB x) (dgi x)) (hb:Rd w b (lenB y) (dgi y)) (hx:lenB x<=1000000000) (hy:lenB y<=1000000000) :
  Calls Tryz.prog 231 #[.slice a (lenB x) ca,.slice b (lenB y) cb] w fun e w'=>e=.returned (.int .i64 (cmpZ x y))/\∃ m,w'=w.drewN m:=by
 obtain⟨k0,hD⟩:=topDiff_any (dgi x) (dgi y) (lenB x)
 have TC:=qh (fun (h:lenB x=lenB y)=>by
  have hC:=topDiff_cmp (dgi_Dig x _) (dgi_Dig y _) hD;rw[sumB_dgi,show sumB (dgi y) (lenB x)=y by rw[h];exact sumB_dgi y] at hC
  exact hC)
 have CL:=qh (And.intro (fun (h:lenB x<lenB y)=>(cmpZ_lt (by have:=cmp_len h;omega):cmpZ x y = -1)) (fun (h:lenB y<lenB x)=>(cmpZ_gt (by have:=cmp_len h;omega):cmpZ x y=1)));obtain⟨hk0,heq,hne⟩:=hD;have EQ:=qh heq;have NE:=qh hne;have HA:=qh ha;have HB:=qh hb;clear heq hne ha hb;obtain⟨fx,hfx⟩:∃ fx,fx=dgi x:=⟨_,rfl⟩;obtain⟨fy,hfy⟩:∃ fy,fy=dgi y:=⟨_,rfl⟩;rw[<- hfx] at TC EQ NE HA;rw[<- hfy] at TC EQ NE HB;clear hfx hfy
 generalize cmpZ (x:Int) (y:Int)=r at *
 generalize lenB x=X at *
 generalize lenB y=Y at *
 rcases Nat.lt_trichotomy X Y with h | h | h
 ·have E:=qh (CL.o.1 h)
  have hd:((X:Int)==(Y:Int))=false:=by simp;omega
  go_enter Tryz.func231,Tryz.ntmps231;go_wp2;go_ret;exact⟨by rw[E.o];rfl,0,rfl⟩
 ·subst h;have E:=qh (TC.o rfl);go_enter Tryz.func231,Tryz.ntmps231;go_wp2_with fail
  go_loopw [5] (fun i wr=>∃ j:Nat,k0<=j/\j<=X/\i=.int .i64 ((j:Int)-1)/\∃ m,wr=w.drewN m) (fun i _=>(1+intOf i).toNat)
  case atStart=>exact⟨X,hk0,zj,rfl,0,rfl⟩
  case round =>
   obtain⟨j,hj,hjn,rfl,m0,rfl⟩:=hrel;by_cases hj0:j=0
   ·subst hj0;have Z:=qh (show r=0 by rw[E.o,if_pos (by omega)]);rw[show(((0:Nat):Int)-1) = -1 from rfl];go_wp2;go_ret;exact⟨by rw[Z.o];rfl,m0,rfl⟩
   ·obtain⟨q,rfl⟩:∃ q,j=q+1:=⟨j-1,by omega⟩;rw[show(((q+1:Nat):Int)-1)=(q:Int) by omega];obtain⟨b1,o1,rfl,hc1⟩:=HA.o.cells (by omega);obtain⟨b2,o2,rfl,hc2⟩:=HB.o.cells (by omega);have c1:w.cell? ⟨b1,o1+q,none⟩=some (.int .u32 (fx q)):=hc1 q (by omega);have c2:w.cell? ⟨b2,o2+q,none⟩=some (.int .u32 (fy q)):=hc2 q (by omega)
    have lx:q<X:=by omega
    clear hc1 hc2
    rcases Int.lt_trichotomy (fx q) (fy q) with hlt | hlt | hlt
    ·have hkq:k0=q+1:=by
      rcases Nat.lt_or_ge q k0 with h | h
      ·omega
      ·have:=EQ.o q h lx;omega
     have Z:=qh (show r = -1 by rw[E.o,if_neg (by omega),hkq];exact cmpZ_lt hlt);have d1:decide (fx q<fy q)=true:=decide_eq_true hlt;clear hkq;go_wp2;go_quiet (fail);go_wp2;go_ret;exact⟨by rw[Z.o];rfl,_,by rw[World.drewN_drewN]⟩
    ·have hkq:k0<=q:=by
      rcases Nat.lt_or_ge q k0 with h | h
      ·have h2:=NE.o (by omega);rw[show k0-1=q by omega] at h2;exact absurd hlt h2
      ·exact h
     have d1:decide (fx q<fy q)=false:=zo (by omega);have d2:decide (fx q>fy q)=false:=zo (by omega);have d3:decide (fy q<fx q)=false:=zo (by omega)
     have n1:¬fx q<fy q:=by omega
     have n2:¬fy q<fx q:=by omega
     clear hlt;go_wp2;go_quiet (fail);go_wp2;go_quiet (fail);go_wp2;go_roundw
     case rel=>exact⟨q,hkq,by omega,rfl,_,rfl⟩
     case measure=>simp[intOf];omega
    ·have hkq:k0=q+1:=by
      rcases Nat.lt_or_ge q k0 with h | h
      ·omega
      ·have:=EQ.o q h lx;omega
     have Z:=qh (show r=1 by rw[E.o,if_neg (by omega),hkq];exact cmpZ_gt hlt)
     have n1:¬fx q<fy q:=by omega
     have d1:decide (fx q<fy q)=false:=zo n1;clear hkq;go_wp2;go_quiet (fail);go_wp2;go_quiet (fail);go_wp2;go_ret;exact⟨by rw[Z.o];rfl,_,by rw[World.drewN_drewN,World.drewN_drewN]⟩
 ·have E:=qh (CL.o.2 h)
  have hd:((X:Int)==(Y:Int))=false:=by simp;omega
  go_enter Tryz.func231,Tryz.ntmps231;go_wp2;go_ret;exact⟨by rw[E.o];rfl,0,rfl⟩
theorem num_any (s:Bool) (a:Option Addr) (n cap:Nat) (o:Nat->Int) (w:World) (h:Rd w a n o) (hd:Dig o n) (hn:n<=1000000000) (hcap:n<=cap) :
  Calls Tryz.prog 194 #[.bool s,.slice a n cap] w fun e w'=>e=.returned (numV (s&&decide (0<lenB (sumB o n).toNat)) a (lenB (sumB o n).toNat) cap)/\Below w.heap.size w w':=by
 have HL:=qh (lenB_le_of hd);have HZ:=qh (fun i=>cut_zero (i:=i) hd);have HT:=qh (cut_last hd)
 generalize lenB (sumB o n).toNat=L at HL HZ HT ⊢
 have HR:=qh h;clear hd h;have B0:=qh (Bx.new w 30 (.bool false) (.slice none 0 0));go_enter Tryz.func194,Tryz.ntmps194;go_wp2_with fail
 go_loopw [1] (fun v wr=>∃ j:Nat,L<=j/\j<=n/\v=.slice a j cap/\∃ m,wr=(w.alloc (.cells #[.bool false,.slice none 0 0] 30)).drewN m) (fun v _=>match v with | .slice _ j _=>j | _=>0)
 case atStart=>exact⟨n,HL.o,zj,rfl,0,rfl⟩
 case round =>
  obtain⟨j,hj,hjn,rfl,m0,rfl⟩:=hrel;have B1:=B0.o.drewN m0;obtain⟨b10,b11,b12,b13⟩:=B1.all;have KB:=qh B1;clear B1;by_cases hj0:j=0
  ·obtain rfl:L=0:=by omega
   subst hj0
   cases s with
   | false =>
    go_wp2
    all_goals
     refine bodyPost_ret (results_cell rfl _ _ _ _ _ _ _ rfl (KB.o.set _ _) Tryz.underlying30 rfl (by kernel_rfl)) rfl ⟨rfl,?_⟩
     exact qg
   | true =>
    go_wp2
    all_goals
     refine bodyPost_ret (results_cell rfl _ _ _ _ _ _ _ rfl (KB.o.set _ _) Tryz.underlying30 rfl (by kernel_rfl)) rfl ⟨rfl,?_⟩;exact qg
  ·obtain⟨q,rfl⟩:∃ q,j=q+1:=⟨j-1,by omega⟩;obtain⟨b,off,rfl,hc⟩:=HR.o.cells (by omega);have c1:w.cell? ⟨b,off+q,none⟩=some (.int .u32 (o q)):=hc q (by omega);have hb:b<w.heap.size:=block_lt_of_cell c1
   have ex:((q+1:Nat):Int)-1=(q:Int):=by omega
   have hq:((q+1:Nat):Int)>0:=by omega
   clear hc;by_cases hjL:q+1=L
   ·subst hjL;have hz:o q≠0:=HT.o (by omega)
    have hzb:(o q==0)=false:=by simpa using hz
    have D:=qh (show decide (0<q+1)=true by simp)
    cases s with
    | false =>
     go_wp2
     all_goals
      refine bodyPost_ret (results_cell rfl _ _ _ _ _ _ _ rfl (KB.o.set _ _) Tryz.underlying30 rfl (by kernel_rfl)) rfl ⟨rfl,?_⟩
      exact qg
    | true =>
     go_wp2
     all_goals
      refine bodyPost_ret (results_cell rfl _ _ _ _ _ _ _ rfl (KB.o.set _ _) Tryz.underlying30 rfl (by kernel_rfl)) rfl ⟨by rw[D.o];rfl,?_⟩;exact qg
   ·have hz:=HZ.o q (by omega) (by omega);go_wp2;go_roundw
    case rel=>exact⟨q,by omega,by omega,rfl,m0,rfl⟩
    case measure=>simp
def ShortR (w:World) (n:Nat) (X by':Int) (e:Ending) (w':World):Prop :=
 ∃ p,e=.returned (.tuple #[.slice (some ⟨w.heap.size,0,none⟩) n n,.int .u32 (X%by')])/\Dig p n/\sumB p n=X/by'/\Own 128 w' w.heap.size (some ⟨w.heap.size,0,none⟩) n n p/\Below w.heap.size w w'
theorem short_any (a:Option Addr) (n c:Nat) (o:Nat->Int) (by':Int) (w:World) (hx:Rd w a n o) (dx:Dig o n) (hn:n<=200000000) (h0:0<by') (h1:by'<=999999999) :
  Calls Tryz.prog 236 #[.slice a n c,.int .u32 by'] w (ShortR w n (sumB o n) by'):=by
 obtain⟨nn,hnn⟩:∃ nn:Nat,nn=n:=⟨_,rfl⟩;have hmk:=run_make_row' (P:=Tryz.prog) 28 128 (.int .u32 0) 4 Tryz.underlying28 info32 rfl .i64 .i64 n (by omega) (by omega);have HR:=qh hx;have DX:=qh dx;have wb:=IntWalk.u64_in by' (by omega);clear hx dx hnn;go_enter Tryz.func236,Tryz.ntmps236;go_wp2_with fail
 go_loopw [6,7] (fun rv iv wr=>∃ i:Nat,i<=n/\iv=.int .i64 ((i:Int)-1)/\(∃ p rest,rv=.int .u64 rest/\ShortIn o n by' i p rest/\wr.rowIs w.heap.size 128 n (uc p))/\Below w.heap.size w wr) (fun _ iv _=>(1+intOf iv).toNat)
 case atStart=>exact⟨n,by omega,rfl,⟨_,_,rfl,ShortIn.start _ _ _,World.rowIs_made w (.int .u32 0) n 128⟩,qg⟩
 case round =>
  obtain⟨i,hi,rfl,⟨p,rest,rfl,hI,hR⟩,G⟩:=hrel;have KM:=qh hI;have KR:=qh hR;have KG:=qh G;have hfz:=hR.frozen;have hbd:=hI.bd h0;clear hI hR G hmk;by_cases hi0:i=0
  ·subst hi0;obtain⟨d1,d2⟩:=KM.o.done;have HD:=qh (And.intro d1 d2);have w1':=IntWalk.u32_in rest (by omega);rw[show(((0:Nat):Int)-1) = -1 from rfl];clear d1 d2;go_wp2_with fail
   go_ret2;exact⟨p,by rw[<- HD.o.2];rfl,KM.o.dig,HD.o.1,Own.of_rowIs KR.o zj (fun i hi=>by have:=KM.o.dig i hi;omega),KG.o⟩
  ·obtain⟨q,rfl⟩:∃ q,i=q+1:=⟨i-1,by omega⟩;rw[show(((q+1:Nat):Int)-1)=(q:Int) by omega];obtain⟨b,off,rfl,hc⟩:=(HR.o.below KG.o).cells (by omega);have c1:wr.cell? ⟨b,off+q,none⟩=some (.int .u32 (o q)):=hc q (by omega);obtain⟨vo,hco⟩:∃ vo,wr.cell? ⟨w.heap.size,q,none⟩=some vo:=⟨_,KR.o.cell (i:=q) (by omega)⟩;have ho:=DX.o q (by omega);have hpb:=part_bd h0 hbd ho;have hm1:rest*1000000000<=999999998*1000000000:=Int.mul_le_mul_of_nonneg_right (by omega) (by omega);have hm2:0<=rest*1000000000:=Int.mul_nonneg hbd.1 (by omega);have hmd:0<=(rest*1000000000+o q)%by'/\(rest*1000000000+o q)%by' < by':=⟨Int.emod_nonneg _ (by omega),Int.emod_lt_of_pos _ h0⟩;have ST:=qh (KM.o.step h0 DX.o (by omega));have ec:1000000000*rest=rest*1000000000:=Int.mul_comm _ _;have w1':=IntWalk.u64_in (rest*1000000000) (by omega);have w2':=IntWalk.u64_in (o q) (by omega);have w3':=IntWalk.u64_in (rest*1000000000+o q) (by omega);have t1:(rest*1000000000+o q).tdiv by'=(rest*1000000000+o q)/by':=Int.tdiv_eq_ediv_of_nonneg (by omega);have t2:(rest*1000000000+o q).tmod by'=(rest*1000000000+o q)%by':=Int.tmod_eq_emod_of_nonneg (by omega);have w4':=IntWalk.u64_in ((rest*1000000000+o q)/by') (by omega);have w5':=IntWalk.u32_in ((rest*1000000000+o q)/by') (by omega);have w6':=IntWalk.u64_in ((rest*1000000000+o q)%by') (by omega)
   have hne:¬by'=0:=by omega
   have hlt:q<n:=by omega
   clear hc ho hpb hm1 hm2 hmd hbd;go_wp2_with fail
   go_roundw
   case rel=>exact⟨q,by omega,rfl,⟨_,_,rfl,ST.o,rows_upd KR.o _⟩,KG.o.sc⟩
   case measure=>simp[intOf];omega
theorem small_any (a:Option Addr) (n c:Nat) (o:Nat->Int) (by':Int) (w:World) (hx:Rd w a n o) (dx:Dig o n) (hn:n<=200000000) (h0:0<by') (h1:by'<=999999999) :
  Calls Tryz.prog 256 #[.slice a n c,.int .u32 by'] w (ShortR w n (sumB o n) by'):=by
 obtain⟨nn,hnn⟩:∃ nn:Nat,nn=n:=⟨_,rfl⟩;have hmk:=run_make_row' (P:=Tryz.prog) 28 128 (.int .u32 0) 4 Tryz.underlying28 info32 rfl .i64 .i64 n (by omega) (by omega);have HR:=qh hx;have DX:=qh dx;have wb:=IntWalk.u64_in by' (by omega);clear hx dx hnn;go_enter Tryz.func256,Tryz.ntmps256;go_wp2_with fail
 go_loopw [7,8] (fun rv iv wr=>∃ i:Nat,i<=n/\iv=.int .i64 ((i:Int)-1)/\(∃ p rest,rv=.int .u64 rest/\ShortIn o n by' i p rest/\wr.rowIs w.heap.size 128 n (uc p))/\Below w.heap.size w wr) (fun _ iv _=>(1+intOf iv).toNat)
 case atStart=>exact⟨n,by omega,rfl,⟨_,_,rfl,ShortIn.start _ _ _,World.rowIs_made w (.int .u32 0) n 128⟩,qg⟩
 case round =>
  obtain⟨i,hi,rfl,⟨p,rest,rfl,hI,hR⟩,G⟩:=hrel;have KM:=qh hI;have KR:=qh hR;have KG:=qh G;have hfz:=hR.frozen;have hbd:=hI.bd h0;clear hI hR G hmk;by_cases hi0:i=0
  ·subst hi0;obtain⟨d1,d2⟩:=KM.o.done;have HD:=qh (And.intro d1 d2);have w1':=IntWalk.u32_in rest (by omega);rw[show(((0:Nat):Int)-1) = -1 from rfl];clear d1 d2;go_wp2_with fail
   go_ret2;exact⟨p,by rw[<- HD.o.2];rfl,KM.o.dig,HD.o.1,Own.of_rowIs KR.o zj (fun i hi=>by have:=KM.o.dig i hi;omega),KG.o⟩
  ·obtain⟨q,rfl⟩:∃ q,i=q+1:=⟨i-1,by omega⟩;rw[show(((q+1:Nat):Int)-1)=(q:Int) by omega];obtain⟨b,off,rfl,hc⟩:=(HR.o.below KG.o).cells (by omega);have c1:wr.cell? ⟨b,off+q,none⟩=some (.int .u32 (o q)):=hc q (by omega);obtain⟨vo,hco⟩:∃ vo,wr.cell? ⟨w.heap.size,q,none⟩=some vo:=⟨_,KR.o.cell (i:=q) (by omega)⟩;have ho:=DX.o q (by omega);have hpb:=part_bd h0 hbd ho;have hm1:rest*1000000000<=999999998*1000000000:=Int.mul_le_mul_of_nonneg_right (by omega) (by omega);have hm2:0<=rest*1000000000:=Int.mul_nonneg hbd.1 (by omega);have hmd:0<=(rest*1000000000+o q)%by'/\(rest*1000000000+o q)%by' < by':=⟨Int.emod_nonneg _ (by omega),Int.emod_lt_of_pos _ h0⟩;have ST:=qh (KM.o.step h0 DX.o (by omega));have ec:1000000000*rest=rest*1000000000:=Int.mul_comm _ _;have w1':=IntWalk.u64_in (rest*1000000000) (by omega);have w2':=IntWalk.u64_in (o q) (by omega);have w3':=IntWalk.u64_in (rest*1000000000+o q) (by omega);have t1:(rest*1000000000+o q).tdiv by'=(rest*1000000000+o q)/by':=Int.tdiv_eq_ediv_of_nonneg (by omega);have t2:(rest*1000000000+o q).tmod by'=(rest*1000000000+o q)%by':=Int.tmod_eq_emod_of_nonneg (by omega);have w4':=IntWalk.u64_in ((rest*1000000000+o q)/by') (by omega);have w5':=IntWalk.u32_in ((rest*1000000000+o q)/by') (by omega);have w6':=IntWalk.u64_in ((rest*1000000000+o q)%by') (by omega)
   have hne:¬by'=0:=by omega
   have hlt:q<n:=by omega
   clear hc ho hpb hm1 hm2 hmd hbd;go_wp2_with fail
   go_roundw
   case rel=>exact⟨q,by omega,rfl,⟨_,_,rfl,ST.o,rows_upd KR.o _⟩,KG.o.sc⟩
   case measure=>simp[intOf];omega
theorem less_step (f:Nat->Int) (k:Nat) (h1:-999999999<=f k/\f k<=999999999) (h2:-1<=cS f k/\cS f k<=0) :
  (f k+1000000000+cS f k)%1000000000=cD f k/\1-(f k+1000000000+cS f k)/1000000000 = - cS f (k+1):=by
 unfold cD;rw[cS];omega
theorem cS_less {f:Nat->Int} {n:Nat} (h:∀ i,i<n->-999999999<=f i/\f i<=999999999):-1<=cS f n/\cS f n<=0:=by
 induction n with
 | zero=>show -1<=(0:Int)/\(0:Int)<=0;omega
 | succ n ih =>
  have h1:=ih fun i hi=>h i (by omega)
  have h2:=h n (by omega);rw[cS];omega
theorem ownBlock_ge {w:World} {base T n:Nat} {v:Value} {xs:List Value} (h:w.ownsRow base T 1 v n xs) {g:Nat} (hg:v.ownBlock=some g):base<=g:=by
 rcases h.2 with ⟨rfl,_⟩ | ⟨g',cap,cur,rfl,hb,_⟩
 ·cases hg
 ·simp only[Value.ownBlock,Option.some.injEq] at hg;omega
theorem less_any (x y:Option Addr) (X Y cx cy:Nat) (fx fy:Nat->Int) (w:World) (hx:Rd w x X fx) (hy:Rd w y Y fy) (dx:Dig fx X) (dy:Dig fy Y) (hX:X<=100000000) (hYX:Y<=X) :
  Calls Tryz.prog 232 #[.slice x X cx,.slice y Y cy] w fun e w'=>∃ v,e=.returned v/\w'.ownsRow w.heap.size 128 1 v X (ucs (cD fun k=>part fx X k-part fy Y k) X)/\Below w.heap.size w w':=by
 obtain⟨i0,hi,hz0,hz1,hz2⟩:=info_parts info32
 obtain⟨F,hF⟩:∃ F:Nat->Int,F=fun k=>part fx X k-part fy Y k:=⟨_,rfl⟩
 rw[<- hF];have HF:=qh hF;have HR1:=qh hx;have HR2:=qh hy;have DX:=qh dx;have DY:=qh dy;clear hx hy dx dy hF;go_enter Tryz.func232,Tryz.ntmps232;go_wp2_with fail
 go_loopw [5,6,7] (fun v ow i wr=>∃ k:Nat,k<=X/\i=.int .i64 k/\ow=.int .u32 (- cS F k)/\wr.ownsRow w.heap.size 128 1 v k (ucs (cD F) k)/\Below w.heap.size w wr) (fun _ _ i _=>X-(intOf i).toNat)
 case atStart=>exact⟨0,by omega,rfl,rfl,Own.row_nil _ _ _,qg⟩
 case round =>
  obtain⟨k,hk,rfl,rfl,hO,hG⟩:=hrel;have HO:=qh hO;have HG:=qh hG;clear hO hG;by_cases hkX:k<X
  ·obtain⟨xb,xo,rfl,hc⟩:=(HR1.o.below HG.o).cells (by omega);have c1:wr.cell? ⟨xb,xo+k,none⟩=some (.int .u32 (fx k)):=hc k hkX;have hfx:=DX.o k hkX
   have bd:∀ i,i<X->-999999999<=F i/\F i<=999999999:=fun i hi=>by
    have h1:=DX.o i hi;simp only[HF.o,part,if_pos hi];split
    ·have h2:=DY.o i (by omega);omega
    ·omega
   have hcs:=cS_less (f:=F) (n:=k) fun i hi=>bd i (by omega)
   have hFk:=bd k hkX;obtain⟨E1,E2⟩:=less_step F k (by omega) hcs;have E2:=qh E2;obtain⟨q,hq⟩:∃ q,q = - cS F k:=⟨_,rfl⟩
   have hqb:0<=q/\q<=1:=by omega
   have u1:=IntWalk.u32_in (fx k+1000000000) (by omega);have u2:=IntWalk.u32_in (fx k+1000000000-q) (by omega);rw[<- hq];by_cases hkY:k<Y
   ·have hfy:=DY.o k hkY
    have hFv:F k=fx k-fy k:=by simp only[HF.o,part,if_pos hkX,if_pos hkY]
    obtain⟨yb,yo,rfl,hc2⟩:=(HR2.o.below HG.o).cells (by omega);have c2:wr.cell? ⟨yb,yo+k,none⟩=some (.int .u32 (fy k)):=hc2 k hkY;have u3:=IntWalk.u32_in (fx k+1000000000-q-fy k) (by omega)
    have t1:(fx k+1000000000-q-fy k).tmod 1000000000=cD F k:=by rw[Int.tmod_eq_emod_of_nonneg (by omega),<- E1];congr 1;omega
    have t2:(fx k+1000000000-q-fy k).tdiv 1000000000=1+cS F (k+1):=by
     have h2:=E2.o
     have e:fx k+1000000000-q-fy k=F k+1000000000+cS F k:=by omega
     rw[Int.tdiv_eq_ediv_of_nonneg (by omega),e];omega
    have hcs2:=cS_less (f:=F) (n:=k+1) fun i hi=>bd i (by omega)
    have hcd:=cD_Dig F (k+1) k (by omega);have u4:=IntWalk.u32_in (cD F k) (by omega);have u5:=IntWalk.u32_in (1+cS F (k+1)) (by omega);have u6:=IntWalk.u32_in (1-(1+cS F (k+1))) (by omega)
    have ez:1-(1+cS F (k+1)) = - cS F (k+1):=by omega
    rw[ez] at u6;clear hc hc2 bd E1 hq;go_wp2_with (first | (at_builtin;refine wpList_append_own _ rfl _ _ 28 rfl w.heap.size 128 i0 (.int .u32 0) 1 4 Tryz.underlying28 hi hz0 hz1 hz2 rfl (by decide) _ _ _ rfl (HO.o.alloc _) ⟨wr.heap.size,0,none⟩ 1 1 [.int .u32 (cD F k)] rfl rfl ?c1 ?c2 ?c3 ?c4 ?c5 ?_))
    case c1 =>
     intro t u ht
     match t,ht with
     | 0,ht=>simp at ht;subst ht;simp[Addr.add]
    case c2=>intro u hu;simp at hu;subst hu;rfl
    case c3=>unfold maxLen;omega
    case c4=>omega
    case c5=>have:=HG.o.size;simp;omega
    intro v' w1 hown' hgrow _;have O2:=qh (show w1.ownsRow w.heap.size 128 1 v' (k+1) (ucs (cD F) (k+1)) by rw[ucs_succ];exact hown');have G2:=qh ((HG.o.alloc HG.o.size _).grown hgrow (by have:=HG.o.size;simp;omega) (fun g hg=>ownBlock_ge HO.o hg));clear hown' hgrow;go_wp2_with fail
    go_roundw
    case rel=>exact⟨k+1,by omega,by go_num,rfl,O2.o,G2.o⟩
    case measure=>simp[intOf];omega
   ·have hFv:F k=fx k:=by simp only[HF.o,part,if_pos hkX,if_neg hkY];omega
    have t1:(fx k+1000000000-q).tmod 1000000000=cD F k:=by rw[Int.tmod_eq_emod_of_nonneg (by omega),<- E1];congr 1;omega
    have t2:(fx k+1000000000-q).tdiv 1000000000=1+cS F (k+1):=by
     have h2:=E2.o
     have e:fx k+1000000000-q=F k+1000000000+cS F k:=by omega
     rw[Int.tdiv_eq_ediv_of_nonneg (by omega),e];omega
    have hcs2:=cS_less (f:=F) (n:=k+1) fun i hi=>bd i (by omega)
    have hcd:=cD_Dig F (k+1) k (by omega);have u4:=IntWalk.u32_in (cD F k) (by omega);have u5:=IntWalk.u32_in (1+cS F (k+1)) (by omega);have u6:=IntWalk.u32_in (1-(1+cS F (k+1))) (by omega)
    have ez:1-(1+cS F (k+1)) = - cS F (k+1):=by omega
    rw[ez] at u6;clear hc bd E1 hq;go_wp2_with (first | (at_builtin;refine wpList_append_own _ rfl _ _ 28 rfl w.heap.size 128 i0 (.int .u32 0) 1 4 Tryz.underlying28 hi hz0 hz1 hz2 rfl (by decide) _ _ _ rfl (HO.o.alloc _) ⟨wr.heap.size,0,none⟩ 1 1 [.int .u32 (cD F k)] rfl rfl ?c1 ?c2 ?c3 ?c4 ?c5 ?_))
    case c1 =>
     intro t u ht
     match t,ht with
     | 0,ht=>simp at ht;subst ht;simp[Addr.add]
    case c2=>intro u hu;simp at hu;subst hu;rfl
    case c3=>unfold maxLen;omega
    case c4=>omega
    case c5=>have:=HG.o.size;simp;omega
    intro v' w1 hown' hgrow _;have O2:=qh (show w1.ownsRow w.heap.size 128 1 v' (k+1) (ucs (cD F) (k+1)) by rw[ucs_succ];exact hown');have G2:=qh ((HG.o.alloc HG.o.size _).grown hgrow (by have:=HG.o.size;simp;omega) (fun g hg=>ownBlock_ge HO.o hg));clear hown' hgrow;go_wp2_with fail
    go_roundw
    case rel=>exact⟨k+1,by omega,by go_num,rfl,O2.o,G2.o⟩
    case measure=>simp[intOf];omega
  ·obtain rfl:k=X:=by omega
   go_wp2_with fail
   go_ret;exact⟨_,rfl,HO.o,HG.o⟩
theorem cf_wide (args:Array Value) (w:World):(callFunc 259 args).run Tryz.prog w=.ok (.enter 259 args) w:=by kernel_rfl
theorem wideFn (w:World) (b1 b2:Nat) (p:Option Addr) (f:Nat->Int) (nx d:Nat) (by':Int) (k:Nat) (c1:w.cell? ⟨b1,0,none⟩=some (.slice p nx d)) (c2:w.cell? ⟨b2,0,none⟩=some (.int .u32 by')) (hp:Rd w p nx f)
  (hx:nx<=1000000000) (hk:k<=1000000000) (hb:0<=by'/\by'<=999999999) (r1:0<=part f nx k/\part f nx k<=999999999) :
  Calls Tryz.prog 259 #[.int .i64 k,.pointer (some ⟨b1,0,none⟩),.pointer (some ⟨b2,0,none⟩)] w fun e w'=>e=.returned (.int .i64 (part f nx k*by'))/\Below w.heap.size w w':=by
 have P:=qh (fun (w1:World) (h:∃ m,w1=w.drewN m)=>part_any p nx d f k w1 (by obtain⟨m,rfl⟩:=h;exact hp.drewN m) hx hk);have m1:part f nx k*by'<=999999999*999999999:=Int.mul_le_mul r1.2 hb.2 hb.1 (by omega);have m2:0<=part f nx k*by':=Int.mul_nonneg r1.1 hb.1;have e1:=IntWalk.i64_in (part f nx k*by') (by omega);have e2:=IntWalk.i64_in by' (by omega)
 generalize part f nx k=u at *
 clear hp m1 m2;go_enter Tryz.func259,Tryz.ntmps259;go_wp2_with fail
 go_quiet (first | with_reducible exact quietOf (P.o _ ⟨_,rfl⟩));go_wp2;go_ret;exact⟨rfl,bdrewN zk _⟩
theorem wide_any (a:Option Addr) (n c:Nat) (o:Nat->Int) (by':Int) (w:World) (hx:Rd w a n o) (dx:Dig o n) (hn:n<=200000000) (hb:0<=by'/\by'<=999999999) :
  Calls Tryz.prog 249 #[.slice a n c,.int .u32 by'] w fun e w'=>∃ g p,e=.returned (.slice (some ⟨g,0,none⟩) (n+1) (n+1))/\Dig p (n+1)/\sumB p (n+1)=sumB o n*by'/\Own 128 w' w.heap.size (some ⟨g,0,none⟩) (n+1) (n+1) p/\Below w.heap.size w w':=by
 have hp:∀ k,0<=part o n k/\part o n k<=999999999:=by
  intro k;unfold part;split
  ·have:=dx k (by omega);omega
  ·omega
 obtain⟨N,hN⟩:∃ N,N=n+1:=⟨_,rfl⟩
 have hs:sumB (fun k=>part o n k*by') N=sumB o n*by':=by rw[sumB_times,sumB_part _ (by omega)]
 have hbd:=sumB_bd dx
 have hlt:sumB o n*by' < (pw N:Int):=by
  rw[hN,pw_succ];have h1:sumB o n*by'<=sumB o n*999999999:=Int.mul_le_mul_of_nonneg_left hb.2 hbd.1;omega
 have hfit:=(cS_fits (f:=fun k=>part o n k*by') (n:=N) (by rw[hs];exact Int.mul_nonneg hbd.1 hb.1) (by rw[hs];exact hlt)).2;have HS:=qh (hfit.trans hs);have HR:=qh hx;obtain⟨W,hW⟩:∃ W,W=((w.alloc (.cells #[.slice a n c] 28)).alloc (.cells #[.int .u32 by'] 128)):=⟨_,rfl⟩
 have hbW:Below w.heap.size w W:=by rw[hW];exact(zk.alloc (by go_size) _).alloc (by go_size) _
 have k1:W.cell? ⟨w.heap.size,0,none⟩=some (.slice a n c):=by
  have h:W.heap[w.heap.size]?=some (.cells #[.slice a n c] 28 (0,0)):=by
   rw[hW,Below.heap_alloc _ _ _ (by simp)];exact heap_alloc_new w _
  rw[cell_of_row _ _ _ _ _ _ h];rfl
 have k2:W.cell? ⟨w.heap.size+1,0,none⟩=some (.int .u32 by'):=by
  have h:=heap_alloc_new (w.alloc (.cells #[.slice a n c] 28)) (.cells #[.int .u32 by'] 128);rw[World.size_alloc,<- hW] at h;rw[cell_of_row _ _ _ _ _ _ h];rfl
 have hsz:w.heap.size+1<W.heap.size:=by rw[hW];simp
 have CA:=qh (carry_any 259 #[.pointer (some ⟨w.heap.size,0,none⟩),.pointer (some ⟨w.heap.size+1,0,none⟩)] N (fun k=>part o n k*by') 0 by' W (by omega) cf_wide
  (fun k hk w1 hb1=>wideFn w1 w.heap.size (w.heap.size+1) a o n c by' k ((hb1.cell (p:=⟨w.heap.size,0,none⟩) (by dsimp only;omega)).trans k1) ((hb1.cell (p:=⟨w.heap.size+1,0,none⟩) (by dsimp only;omega)).trans k2)
   (HR.o.below (hbW.trans (hb1.mono hbW.size))) (by omega) (by omega) hb (hp k))
  (fun k _=>by
   have h1:=hp k;have h2:part o n k*by'<=999999999*by':=Int.mul_le_mul_of_nonneg_right h1.2 hb.1;have h3:0<=part o n k*by':=Int.mul_nonneg h1.1 hb.1
   omega) (by omega) (by omega) (by omega) (by omega))
 have HW:=qh hW;have HB:=qh hbW
 have ew:IntKind.i64.wrap ((n:Int)+1)=(N:Int):=by rw[IntWalk.i64_in _ (by omega)];omega
 have HN:=qh hN;clear hx dx hp hs hbd hlt hfit hW hbW k1 k2 hsz hN;go_enter Tryz.func249,Tryz.ntmps249;go_wp2_with fail
 rw[show((w.alloc (.cells #[.slice a n c] 28)).alloc (.cells #[.int .u32 by'] 128))=W from HW.o.symm];refine CA.o.mono ?_;rintro e w1 ⟨rfl,hO,hb1⟩;have HO:=qh hO;have HB1:=qh (HB.o.trans (hb1.mono HB.o.size));clear hO hb1 CA;go_wp2;go_ret;refine⟨_,cD (fun k=>part o n k*by'),by rw[<- HN.o];rfl,cD_Dig _ _,by rw[<- HN.o];exact HS.o,?_,HB1.o⟩;rw[<- HN.o];exact HO.o.mono HB.o.size
theorem more_any (x y:Option Addr) (X Y cx cy M:Nat) (fx fy:Nat->Int) (w:World) (hx:Rd w x X fx) (hy:Rd w y Y fy) (dx:Dig fx X) (dy:Dig fy Y) (hX:X<=100000000) (hY:Y<=100000000) (hM1:X<=M) (hM2:Y<=M) (hM3:M=X\/M=Y) :
  Calls Tryz.prog 230 #[.slice x X cx,.slice y Y cy] w fun e w'=>∃ v K,e=.returned v/\M<=K/\K<=M+1/\cS (fun k=>part fx X k+part fy Y k) K=0/\w'.ownsRow w.heap.size 128 1 v K (ucs (cD fun k=>part fx X k+part fy Y k) K)/\Below w.heap.size w w':=by
 obtain⟨i0,hi,hz0,hz1,hz2⟩:=info_parts info32
 obtain⟨F,hF⟩:∃ F:Nat->Int,F=fun k=>part fx X k+part fy Y k:=⟨_,rfl⟩
 rw[<- hF];have HF:=qh hF;have HR1:=qh hx;have HR2:=qh hy;have DX:=qh dx;have DY:=qh dy
 have BD:=qh (show ∀ i,0*999999999<=F i/\F i<=2*999999999 from fun i=>by
  simp only[HF.o,part]
  split <;> split
  ·have:=dx i (by omega);have:=dy i (by omega);omega
  ·have:=dx i (by omega);omega
  ·have:=dy i (by omega);omega
  ·omega)
 clear hx hy dx dy hF;go_enter Tryz.func230,Tryz.ntmps230;go_wp2_with fail
 go_loopw [5,6,7] (fun v ow i wr=>∃ k:Nat,k<=M+1/\(k=M+1->cS F k=0)/\i=.int .i64 k/\ow=.int .u32 (cS F k)/\wr.ownsRow w.heap.size 128 1 v k (ucs (cD F) k)/\Below w.heap.size w wr) (fun _ _ i _=>M+1-(intOf i).toNat)
 case atStart=>exact⟨0,by omega,fun h=>by omega,rfl,rfl,Own.row_nil _ _ _,qg⟩
 case round =>
  obtain⟨k,hk,hkM,rfl,rfl,hO,hG⟩:=hrel;have HO:=qh hO;have HG:=qh hG;have hcs:=cS_bd (f:=F) (lo:=0) (hi:=2) (n:=k) (by omega) (by omega) (fun i _=>BD.o i);have hcs2:=cS_bd (f:=F) (lo:=0) (hi:=2) (n:=k+1) (by omega) (by omega) (fun i _=>BD.o i);obtain⟨q,hq⟩:∃ q,q=cS F k:=⟨_,rfl⟩;rw[<- hq];clear hO hG;by_cases hkX:k<X
  ·by_cases hkY:k<Y
   ·have hFv:F k=fx k+fy k:=by simp only[HF.o,part,if_pos hkX,if_pos hkY]
    have hfx:=DX.o k hkX;obtain⟨xb,xo,rfl,hc⟩:=(HR1.o.below HG.o).cells (by omega);have c1:wr.cell? ⟨xb,xo+k,none⟩=some (.int .u32 (fx k)):=hc k hkX;clear hc;have u1:=IntWalk.u32_in (q+fx k) (by omega);have hfy:=DY.o k hkY;obtain⟨yb,yo,rfl,hc⟩:=(HR2.o.below HG.o).cells (by omega);have c2:wr.cell? ⟨yb,yo+k,none⟩=some (.int .u32 (fy k)):=hc k hkY;clear hc;have u2:=IntWalk.u32_in (q+fx k+fy k) (by omega)
    have e:q+fx k+fy k=F k+cS F k:=by omega
    have t1:(q+fx k+fy k).tmod 1000000000=cD F k:=by rw[Int.tmod_eq_emod_of_nonneg (by omega),e];rfl
    have t2:(q+fx k+fy k).tdiv 1000000000=cS F (k+1):=by rw[Int.tdiv_eq_ediv_of_nonneg (by omega),e];rfl
    have hcd:=cD_Dig F (k+1) k (by omega);have u4:=IntWalk.u32_in (cD F k) (by omega)
    have hl:k+1=M+1->cS F (k+1)=0:=fun h=>by rw[cS];omega
    have HLs:=qh hl;clear e hq hFv hl;go_wp2_with (first | (at_builtin;refine wpList_append_own _ rfl _ _ 28 rfl w.heap.size 128 i0 (.int .u32 0) 1 4 Tryz.underlying28 hi hz0 hz1 hz2 rfl (by decide) _ _ _ rfl (HO.o.alloc _) ⟨wr.heap.size,0,none⟩ 1 1 [.int .u32 (cD F k)] rfl rfl ?c1 ?c2 ?c3 ?c4 ?c5 ?_))
    case c1 =>
     intro t u ht
     match t,ht with
     | 0,ht=>simp at ht;subst ht;simp[Addr.add]
    case c2=>intro u hu;simp at hu;subst hu;rfl
    case c3=>unfold maxLen;omega
    case c4=>omega
    case c5=>have:=HG.o.size;simp;omega
    intro v' w1 hown' hgrow _;have O2:=qh (show w1.ownsRow w.heap.size 128 1 v' (k+1) (ucs (cD F) (k+1)) by rw[ucs_succ];exact hown');have G2:=qh ((HG.o.alloc HG.o.size _).grown hgrow (by have:=HG.o.size;simp;omega) (fun g hg=>ownBlock_ge HO.o hg));clear hown' hgrow;go_wp2_with fail
    go_roundw
    case rel=>exact⟨k+1,by omega,HLs.o,by go_num,rfl,O2.o,G2.o⟩
    case measure=>simp[intOf];omega
   ·have hFv:F k=fx k+0:=by simp only[HF.o,part,if_pos hkX,if_neg hkY]
    have hfx:=DX.o k hkX;obtain⟨xb,xo,rfl,hc⟩:=(HR1.o.below HG.o).cells (by omega);have c1:wr.cell? ⟨xb,xo+k,none⟩=some (.int .u32 (fx k)):=hc k hkX;clear hc;have u1:=IntWalk.u32_in (q+fx k) (by omega)
    have e:q+fx k=F k+cS F k:=by omega
    have t1:(q+fx k).tmod 1000000000=cD F k:=by rw[Int.tmod_eq_emod_of_nonneg (by omega),e];rfl
    have t2:(q+fx k).tdiv 1000000000=cS F (k+1):=by rw[Int.tdiv_eq_ediv_of_nonneg (by omega),e];rfl
    have hcd:=cD_Dig F (k+1) k (by omega);have u4:=IntWalk.u32_in (cD F k) (by omega)
    have hl:k+1=M+1->cS F (k+1)=0:=fun h=>by rw[cS];omega
    have HLs:=qh hl;clear e hq hFv hl;go_wp2_with (first | (at_builtin;refine wpList_append_own _ rfl _ _ 28 rfl w.heap.size 128 i0 (.int .u32 0) 1 4 Tryz.underlying28 hi hz0 hz1 hz2 rfl (by decide) _ _ _ rfl (HO.o.alloc _) ⟨wr.heap.size,0,none⟩ 1 1 [.int .u32 (cD F k)] rfl rfl ?c1 ?c2 ?c3 ?c4 ?c5 ?_))
    case c1 =>
     intro t u ht
     match t,ht with
     | 0,ht=>simp at ht;subst ht;simp[Addr.add]
    case c2=>intro u hu;simp at hu;subst hu;rfl
    case c3=>unfold maxLen;omega
    case c4=>omega
    case c5=>have:=HG.o.size;simp;omega
    intro v' w1 hown' hgrow _;have O2:=qh (show w1.ownsRow w.heap.size 128 1 v' (k+1) (ucs (cD F) (k+1)) by rw[ucs_succ];exact hown');have G2:=qh ((HG.o.alloc HG.o.size _).grown hgrow (by have:=HG.o.size;simp;omega) (fun g hg=>ownBlock_ge HO.o hg));clear hown' hgrow;go_wp2_with fail
    go_roundw
    case rel=>exact⟨k+1,by omega,HLs.o,by go_num,rfl,O2.o,G2.o⟩
    case measure=>simp[intOf];omega
  ·by_cases hkY:k<Y
   ·have hFv:F k=0+fy k:=by simp only[HF.o,part,if_neg hkX,if_pos hkY]
    have hfy:=DY.o k hkY;obtain⟨yb,yo,rfl,hc⟩:=(HR2.o.below HG.o).cells (by omega);have c2:wr.cell? ⟨yb,yo+k,none⟩=some (.int .u32 (fy k)):=hc k hkY;clear hc;have u2:=IntWalk.u32_in (q+fy k) (by omega)
    have e:q+fy k=F k+cS F k:=by omega
    have t1:(q+fy k).tmod 1000000000=cD F k:=by rw[Int.tmod_eq_emod_of_nonneg (by omega),e];rfl
    have t2:(q+fy k).tdiv 1000000000=cS F (k+1):=by rw[Int.tdiv_eq_ediv_of_nonneg (by omega),e];rfl
    have hcd:=cD_Dig F (k+1) k (by omega);have u4:=IntWalk.u32_in (cD F k) (by omega)
    have hl:k+1=M+1->cS F (k+1)=0:=fun h=>by rw[cS];omega
    have HLs:=qh hl;clear e hq hFv hl;go_wp2_with (first | (at_builtin;refine wpList_append_own _ rfl _ _ 28 rfl w.heap.size 128 i0 (.int .u32 0) 1 4 Tryz.underlying28 hi hz0 hz1 hz2 rfl (by decide) _ _ _ rfl (HO.o.alloc _) ⟨wr.heap.size,0,none⟩ 1 1 [.int .u32 (cD F k)] rfl rfl ?c1 ?c2 ?c3 ?c4 ?c5 ?_))
    case c1 =>
     intro t u ht
     match t,ht with
     | 0,ht=>simp at ht;subst ht;simp[Addr.add]
    case c2=>intro u hu;simp at hu;subst hu;rfl
    case c3=>unfold maxLen;omega
    case c4=>omega
    case c5=>have:=HG.o.size;simp;omega
    intro v' w1 hown' hgrow _;have O2:=qh (show w1.ownsRow w.heap.size 128 1 v' (k+1) (ucs (cD F) (k+1)) by rw[ucs_succ];exact hown');have G2:=qh ((HG.o.alloc HG.o.size _).grown hgrow (by have:=HG.o.size;simp;omega) (fun g hg=>ownBlock_ge HO.o hg));clear hown' hgrow;go_wp2_with fail
    go_roundw
    case rel=>exact⟨k+1,by omega,HLs.o,by go_num,rfl,O2.o,G2.o⟩
    case measure=>simp[intOf];omega
   ·by_cases hq0:q>0
    ·have hkM2:k<=M:=by
      rcases Nat.lt_or_ge M k with h | h
      ·have:=hkM (by omega);omega
      ·exact h
     have hFv:F k=0+0:=by simp only[HF.o,part,if_neg hkX,if_neg hkY]
     have e:q=F k+cS F k:=by omega
     have t1:(q).tmod 1000000000=cD F k:=by rw[Int.tmod_eq_emod_of_nonneg (by omega),e];rfl
     have t2:(q).tdiv 1000000000=cS F (k+1):=by rw[Int.tdiv_eq_ediv_of_nonneg (by omega),e];rfl
     have hcd:=cD_Dig F (k+1) k (by omega);have u4:=IntWalk.u32_in (cD F k) (by omega)
     have hl:k+1=M+1->cS F (k+1)=0:=fun h=>by rw[cS];omega
     have hgt:q>0:=hq0;have HLs:=qh hl;clear e hq hFv hl;go_wp2_with (first | (at_builtin;refine wpList_append_own _ rfl _ _ 28 rfl w.heap.size 128 i0 (.int .u32 0) 1 4 Tryz.underlying28 hi hz0 hz1 hz2 rfl (by decide) _ _ _ rfl (HO.o.alloc _) ⟨wr.heap.size,0,none⟩ 1 1 [.int .u32 (cD F k)] rfl rfl ?c1 ?c2 ?c3 ?c4 ?c5 ?_))
     case c1 =>
      intro t u ht
      match t,ht with
      | 0,ht=>simp at ht;subst ht;simp[Addr.add]
     case c2=>intro u hu;simp at hu;subst hu;rfl
     case c3=>unfold maxLen;omega
     case c4=>omega
     case c5=>have:=HG.o.size;simp;omega
     intro v' w1 hown' hgrow _;have O2:=qh (show w1.ownsRow w.heap.size 128 1 v' (k+1) (ucs (cD F) (k+1)) by rw[ucs_succ];exact hown');have G2:=qh ((HG.o.alloc HG.o.size _).grown hgrow (by have:=HG.o.size;simp;omega) (fun g hg=>ownBlock_ge HO.o hg));clear hown' hgrow;go_wp2_with fail
     go_roundw
     case rel=>exact⟨k+1,by omega,HLs.o,by go_num,rfl,O2.o,G2.o⟩
     case measure=>simp[intOf];omega
    ·have hE:=qh (And.intro (show M<=k by omega) (And.intro (show k<=M+1 by omega) (show cS F k=0 by omega)));have hn0:¬q>0:=hq0
     obtain rfl:q=0:=by omega
     clear hq hn0 hq0 hkM;go_wp2_with fail
     go_ret;exact⟨_,k,rfl,hE.o.1,hE.o.2.1,hE.o.2.2,HO.o,HG.o⟩
theorem append_nil_run (a:Option Addr) (n cap:Nat) (o:Nat->Int) (w:World) (base ty:Nat) (h:Rd w a n o) (hn:n<=1000000000) (hb:base<=w.heap.size) :
  ∃ a' cap' w',(Builtin.append_ #[28,28] ty #[.slice none 0 0,.slice a n cap]).run Tryz.prog w=.ok (.slice a' n cap') w'/\Own 128 w' base a' n cap' o/\(a'=none->cap'=0)/\Below w.heap.size w w':=by
 obtain⟨i0,hi,hz0,hz1,hz2⟩:=info_parts info32
 cases a with
 | none =>
  obtain rfl:n=0:=by
   rcases Nat.eq_zero_or_pos n with h0 | h0
   ·exact h0
   ·obtain⟨b,off,e,_⟩:=h.cells h0;cases e
  refine⟨none,0,w,?_,⟨zj,Or.inl ⟨rfl,rfl,rfl⟩,fun i hi=>by omega⟩,fun _=>rfl,zk⟩
  simp[Builtin.append_,run_underlying (P:=Tryz.prog) Tryz.underlying28,sizeOf,typeInfo,hi,Builtin.lenOf,Builtin.firstCells]
 | some p =>
  obtain⟨b,off,pt⟩:=p
  obtain⟨v',w',hrun,hown,hgrow,_⟩:=run_append_own (P:=Tryz.prog) w base 28 ty 128 i0 (.int .u32 0) 1 4 Tryz.underlying28 hi hz0 hz1 hz2 rfl (by decide) (.slice none 0 0) 0 [] (Own.row_nil w base o) ⟨b,off,pt⟩ n cap (ucs o n) (by rw[ucs_len];omega)
   (by
    intro j u hj;obtain⟨hjn,rfl⟩:=ucs_get' hj;obtain⟨b',off',e,hc⟩:=h.cells (by omega)
    cases e
    rw[Addr.add_lit]
    exact hc j hjn) ucs_one (by unfold maxLen;omega) (by omega) hb
  have hown:w'.ownsRow base 128 1 v' n (ucs o n):=by simpa using hown
  obtain⟨a',cap',rfl,hO,hN⟩:=Own.of_row hown h.rng;exact⟨a',cap',w',hrun,hO,hN,(Below.refl _ w).grown hgrow zj (by intro k hk;simp[Value.ownBlock] at hk)⟩
theorem gives_append {P:Program} {o:Oper} {a:Act} {w w':World} {Post:Value->World->Prop} {v u r:Value} (s x:Operand) (t:TypeId)
  (ho:o.op=.call { callee:=.builtin .append,args:=#[s,x],argTypes:=#[t,t] }) (hs:a.eval s=v) (hx:a.eval x=u)
  (hr:(Builtin.append_ #[t,t] o.type #[v,u]).run P w=.ok r w') (hP:Post r w'/\Below w.heap.size w w'):givesUpon P w Post ((execOp a.eval o).run P w):=by
 unfold execOp;simp only[ho,resolve,invoke,builtin,Sem.run_bind,Sem.run_pure,Result.andThen_ok,List.map_toArray,List.map_cons,List.map_nil,hs,hx,hr];exact hP
theorem twin_any (s:Bool) (a:Option Addr) (n cap:Nat) (o:Nat->Int) (w:World) (h:Rd w a n o) (hn:n<=1000000000) :
  Calls Tryz.prog 168 #[numV s a n cap] w fun e w'=>∃ a' cap',e=.returned (numV s a' n cap')/\Own 128 w' w.heap.size a' n cap' o/\(a'=none->cap'=0)/\Below w.heap.size w w':=by
 have HR:=qh h;have B1:=((Bx.new w 30 (.bool s) (.slice a n cap)).alloc (.cells #[.bool false,.slice none 0 0] 30));have B2:=(Bx.new2 w (.cells #[.bool s,.slice a n cap] 30) 30 (.bool false) (.slice none 0 0));clear h;go_enter Tryz.func168,Tryz.ntmps168
 go_upto_region 2 with (fail)
 obtain⟨W,hW⟩:∃ W,W=((w.alloc (.cells #[.bool s,.slice a n cap] 30)).alloc (.cells #[.bool false,.slice none 0 0] 30)):=⟨_,rfl⟩;have G1:=qh ((zk.alloc (by go_size) _ |>.alloc (by go_size) _):Below w.heap.size w ((w.alloc (.cells #[.bool s,.slice a n cap] 30)).alloc (.cells #[.bool false,.slice none 0 0] 30)));rw[<- hW] at B1 B2 G1;rw[show((w.alloc (.cells #[.bool s,.slice a n cap] 30)).alloc (.cells #[.bool false,.slice none 0 0] 30))=W from hW.symm];have HB1:=qh B1;have HB2:=qh B2;clear hW B1 B2;have HS1:=qh (fun (w':World) (hb:Below W.heap.size W w')=>And.intro (HB1.o.bl hb).c0 (HB1.o.bl hb).c1);have AP:=qh (fun (w':World) (hb:Below W.heap.size W w') (ty:Nat)=>append_nil_run a n cap o w' W.heap.size ty (HR.o.below (G1.o.trans (hb.mono G1.o.size))) hn hb.size)
 refine wp_region_fresh 7 (spOf [(5,Sp.made (fun x:Option Addr × Nat=>.slice x.1 n x.2) (fun x w'=>Own 128 w' W.heap.size x.1 n x.2 o/\(x.1=none->x.2=0)))])
  (fun w'=>Below W.heap.size W w') (by kernel_rfl) (by kernel_rfl)
  (spOf_cons (Sp.made_keeps fun x w w' h hb=>⟨h.1.below hb,h.2⟩) spOf_nil) (fun _ _ h hb=>h.trans (hb.mono h.size)) (zk.drew) ?_
 simp only[zx,zy,zv,zw]
 iterate 5
  (refine wpF_reads rfl rfl ?_ (fun w' hw'=>?_) ?_;rotate_left;· (have hb':=Has.world hw';(have hs:=HS1.o _ hb');clear hw';go_simp;try rfl))
 refine wpF_spec rfl rfl (fun w' hw'=>?_) ?_
 ·have hb':Below W.heap.size W w':=hw'.world;obtain⟨a',cap',w'',hrun,hO,hN,hb⟩:=AP.o w' hb' 28;clear hw';exact gives_append _ _ 28 rfl rfl rfl hrun ⟨⟨⟨(a',cap'),rfl⟩,⟨(a',cap'),rfl,hO,hN⟩⟩,hb⟩
 rintro _ ⟨x,rfl⟩
 (refine wpF_reads rfl rfl ?_ (fun w' hw'=>?_) ?_;rotate_left;· (have hb':=Has.world hw';(skip);clear hw';go_simp;try rfl))
 refine wpF_nil (fun w5 hb5 hF5=>?_);have OA:=own_clone (x:=x) (L:=n) (T:=128) (o:=o) (b:=W.heap.size) (hF5 5);have HO:=qh OA;have B2:=HB2.o.bl hb5;have HB5:=qh B2;obtain⟨b30,b31,b32,b33⟩:=B2.all;have HG5:=qh (G1.o.trans (hb5.mono G1.o.size));have hz4:=HB2.o.lt;have hz5:=G1.o.size;clear hF5 OA B2 hb5 HS1 AP;go_wp2_with fail
 refine bodyPost_ret (results_cell rfl _ _ _ _ _ _ _ rfl (HB5.o.set _ _) Tryz.underlying30 rfl (by kernel_rfl)) rfl ⟨x.1,x.2,rfl,?_,HO.o.2,?_⟩
 ·exact((HO.o.1.oz).oz).mono hz5
 ·exact(HG5.o.sc).sc
def ResF (w:World) (z:Int) (e:Ending) (w':World):Prop :=
 ∃ a cap,e=.returned (numV (decide (z<0)) a (lenB z.natAbs) cap)/\Own 128 w' w.heap.size a (lenB z.natAbs) cap (dgi z.natAbs)/\Below w.heap.size w w'
def AmtR (w:World) (N:Nat) (e:Ending) (w':World):Prop :=
 ∃ a K cap o,e=.returned (.slice a K cap)/\Dig o K/\sumB o K=(N:Int)/\K<=1000000000/\Own 128 w' w.heap.size a K cap o/\Below w.heap.size w w'
theorem more_own (x y:Nat) (a b:Option Addr) (ca cb:Nat) (w:World) (ha:Rd w a (lenB x) (dgi x)) (hb:Rd w b (lenB y) (dgi y)) (hx:lenB x<=100000000) (hy:lenB y<=100000000) :
  Calls Tryz.prog 230 #[.slice a (lenB x) ca,.slice b (lenB y) cb] w (AmtR w (x+y)):=by
 obtain⟨M,hM1,hM2,hM3,hM4⟩:∃ M,lenB x<=M/\lenB y<=M/\(M=lenB x\/M=lenB y)/\M<=100000000:=by
  rcases Nat.le_total (lenB x) (lenB y) with h | h
  ·exact⟨lenB y,h,zj,.inr rfl,hy⟩
  ·exact⟨lenB x,zj,h,.inl rfl,hx⟩
 refine(more_any a b (lenB x) (lenB y) ca cb M (dgi x) (dgi y) w ha hb (dgi_Dig _ _) (dgi_Dig _ _) hx hy hM1 hM2 hM3).mono ?_;rintro e w' ⟨v,K,rfl,h1,h2,h3,h4,h5⟩;obtain⟨a',cap',rfl,hO,-⟩:=Own.of_row h4 (fun i hi=>by have:=cD_Dig (fun k=>part (dgi x) (lenB x) k+part (dgi y) (lenB y) k) K i hi;omega);refine⟨a',K,cap',_,rfl,cD_Dig _ _,?_,by omega,hO,h5⟩;have h:=cS_sum (fun k=>part (dgi x) (lenB x) k+part (dgi y) (lenB y) k) K;rw[h3,sumB_plus,sumB_part _ (by omega),sumB_part _ (by omega),sumB_dgi,sumB_dgi] at h;omega
theorem less_own (x y:Nat) (a b:Option Addr) (ca cb:Nat) (w:World) (ha:Rd w a (lenB x) (dgi x)) (hb:Rd w b (lenB y) (dgi y)) (hx:lenB x<=100000000) (hy:y<=x) :
  Calls Tryz.prog 232 #[.slice a (lenB x) ca,.slice b (lenB y) cb] w (AmtR w (x-y)):=by
 have hl:=lenB_mono hy;refine(less_any a b (lenB x) (lenB y) ca cb (dgi x) (dgi y) w ha hb (dgi_Dig _ _) (dgi_Dig _ _) hx hl).mono ?_;rintro e w' ⟨v,rfl,h4,h5⟩;obtain⟨a',cap',rfl,hO,-⟩:=Own.of_row h4 (fun i hi=>by have:=cD_Dig (fun k=>part (dgi x) (lenB x) k-part (dgi y) (lenB y) k) (lenB x) i hi;omega);refine⟨a',lenB x,cap',_,rfl,cD_Dig _ _,?_,by omega,hO,h5⟩
 have e:(fun k=>part (dgi x) (lenB x) k-part (dgi y) (lenB y) k)=fun k=>part (dgi x) (lenB x) k+part (dgi y) (lenB y) k*(-1):=by funext k;omega
 have hs:sumB (fun k=>part (dgi x) (lenB x) k-part (dgi y) (lenB y) k) (lenB x)=(x:Int)-y:=by
  rw[e,sumB_plus,sumB_times,sumB_part _ zj,sumB_part _ hl,sumB_dgi,sumB_dgi];omega
 have hlt:=lt_pw_lenB x;have h:=(cS_fits (f:=fun k=>part (dgi x) (lenB x) k-part (dgi y) (lenB y) k) (n:=lenB x) (by rw[hs];omega) (by rw[hs];omega)).2;rw[h,hs];omega
theorem Own.short {T:Nat} {w:World} {base:Nat} {a:Option Addr} {n cap L:Nat} {o o':Nat->Int} (h:Own T w base a n cap o) (hL:L<=n) (e:∀ i,i<L->o i=o' i):Own T w base a L cap o':=by
 refine⟨zm hL h.le,?_,fun i hi=>by rw[<- e i hi];exact h.rng i (by omega)⟩
 rcases h.place with ⟨e0,h0,h1⟩ | ⟨g,cur,ha,hbg,hg,hcap,hc⟩
 ·exact Or.inl ⟨e0,by omega,by omega⟩
 ·exact Or.inr ⟨g,cur,ha,hbg,hg,hcap,fun i hi=>by rw[hc i (by omega)];show some (Value.int .u32 (o i))=_;rw[e i hi]⟩
theorem own_fit {T:Nat} {w:World} {base:Nat} {a:Option Addr} {n cap N:Nat} {o:Nat->Int} (h:Own T w base a n cap o) (hd:Dig o n) (hs:sumB o n=(N:Int)):Own T w base a (lenB N) cap (dgi N):=by
 have e:(sumB o n).toNat=N:=by omega
 have h1:=lenB_le_of hd;rw[e] at h1
 refine h.short h1 fun i hi=>?_
 have h2:=dg_sumB hd i (by omega);rw[e] at h2;exact h2.symm
theorem num_own (s sB:Bool) (a:Option Addr) (n cap N b:Nat) (o:Nat->Int) (w:World) (h:Own 128 w b a n cap o) (hd:Dig o n) (hn:n<=1000000000) (hs:sumB o n=(N:Int)) (hB:(s&&decide (0<lenB N))=sB) :
  Calls Tryz.prog 194 #[.bool s,.slice a n cap] w fun e w'=>e=.returned (numV sB a (lenB N) cap)/\Below w.heap.size w w':=by
 have h1:=num_any s a n cap o w h.rd hd hn h.le;rw[show(sumB o n).toNat=N by omega,hB] at h1;exact h1
def AmtF (b N:Nat) (x:Option Addr × Nat × Nat) (w:World):Prop:=∃ o,Dig o x.2.1/\sumB o x.2.1=(N:Int)/\x.2.1<=1000000000/\Own 128 w b x.1 x.2.1 x.2.2 o
theorem AmtF.keeps {b N:Nat} (x:Option Addr × Nat × Nat) (w w':World) (h:AmtF b N x w) (hb:Below w.heap.size w w'):AmtF b N x w':=by
 obtain⟨o,h1,h2,h3,h4⟩:=h;exact⟨o,h1,h2,h3,h4.below hb⟩
theorem amt_of {b N:Nat} {x:Option Addr × Nat × Nat} {w:World} (h:∃ y:Option Addr × Nat × Nat,Value.slice x.1 x.2.1 x.2.2=.slice y.1 y.2.1 y.2.2/\AmtF b N y w):AmtF b N x w:=by
 obtain⟨⟨y1,y2,y3⟩,e,h⟩:=h;obtain⟨x1,x2,x3⟩:=x;simp only[Value.slice.injEq] at e;obtain⟨rfl,rfl,rfl⟩:=e;exact h
theorem own_numc {T L b:Nat} {s:Bool} {x:Option Addr × Nat} {o:Nat->Int} {w:World} (h:∃ y:Option Addr × Nat,numV s x.1 L x.2=numV s y.1 L y.2/\Own T w b y.1 L y.2 o):Own T w b x.1 L x.2 o:=by
 obtain⟨y,e,h⟩:=h;simp only[Value.agg.injEq,Array.mk.injEq,List.cons.injEq,Value.slice.injEq,true_and,and_true] at e;rw[e.1,e.2];exact h
theorem plus_plain (z1 z2:Int) (h:decide (z1<0)=decide (z2<0)):z1.natAbs+z2.natAbs=(z1+z2).natAbs/\(decide (z1<0)&&decide (0<lenB (z1+z2).natAbs))=decide (z1+z2<0):=by
 have e0:=pos_len (z:=z1+z2)
 by_cases h1:z1<0 <;> by_cases h2:z2<0 <;> simp only[h1,h2,decide_true,decide_false,reduceCtorEq] at h <;> refine⟨by omega,?_⟩ <;> simp only[h1,decide_true,decide_false,Bool.true_and,Bool.false_and]
 ·exact decide_eq_decide.2 (e0.trans (by omega))
 ·exact(zo (by omega)).symm
theorem minus_plain (zp zq:Int) (h:zq.natAbs<=zp.natAbs) (hs:¬decide (zp<0)=decide (zq<0)):zp.natAbs-zq.natAbs=(zp+zq).natAbs/\(decide (zp<0)&&decide (0<lenB (zp+zq).natAbs))=decide (zp+zq<0):=by
 have h3:=add_plain zp zq (-1) h (by rw[if_neg hs]);exact⟨by omega,h3.2.2⟩
theorem rsign_any (s1:Bool) (a1:Option Addr) (n1 c1:Nat) (o1:Nat->Int) (w:World) (h1:Rd w a1 n1 o1) (hn1:n1<=100000000) (hc1:n1<=c1) :
  Calls Tryz.prog 189 #[numV s1 a1 n1 c1] w fun e w'=>e=.returned (.int .i64 (cmpZ (valN s1 n1 o1) 0))/\Below w.heap.size w w':=by
 obtain⟨x1,d1,r1,l1,m1,O1⟩:=fit_any s1 a1 n1 c1 o1 w h1 (by omega) hc1
 generalize valN s1 n1 o1=z1 at r1 l1 m1 O1 ⊢
 have HO1:=qh O1;clear O1;have HB1:=qh (Bx.new w 30 (.bool s1) (.slice a1 n1 c1));clear h1 r1;go_enter Tryz.func189,Tryz.ntmps189;go_wp2_with fail
 refine(HO1.o _ ?_).mono ?_
 ·exact qg
 rintro e w1 ⟨rfl,hb1⟩;have B1:=HB1.o.bl hb1;have G1:=qh ((zk.alloc (by go_size) _).trans (hb1.mono (by go_size)):Below w.heap.size w w1);obtain⟨b10,b11,b12,b13⟩:=B1.all;clear HB1 B1 hb1 HO1;obtain⟨L,hL⟩:∃ L,L=lenB z1.natAbs:=⟨_,rfl⟩;rw[<- hL] at l1 m1 ⊢
 rcases Int.lt_trichotomy z1 0 with h | h | h
 ·have E:=qh (cmpZ_lt (x:=z1) (y:=0) h);rw[decide_eq_true h];clear h;go_wp2;go_ret;exact⟨by rw[E.o];rfl,(G1.o.setCell (by simp) _).setCell (by simp) _⟩
 ·have E:=qh (cmpZ_eq (x:=z1) (y:=0) h);rw[zo (by omega)]
  obtain rfl:L=0:=by rw[hL,h];exact lenB_zero
  clear h hL;go_wp2;go_ret;exact⟨by rw[E.o];rfl,(G1.o.setCell (by simp) _).setCell (by simp) _⟩
 ·have E:=qh (cmpZ_gt (x:=z1) (y:=0) h);rw[zo (by omega)]
  have h0:(L:Int)>0:=by have:=(pos_len (z:=z1)).2 (by omega);omega
  clear h hL;go_wp2;go_ret;exact⟨by rw[E.o];rfl,(G1.o.setCell (by simp) _).setCell (by simp) _⟩
end Limb
namespace Book
open Go.RowKit Go.Sort Go.Fresh Limb
structure Touch (U:Nat->Prop) (w w':World):Prop where
 os:w'.os=w.os
 tape:w'.tape=w.tape
 output:w'.output=w.output
 size:w.heap.size<=w'.heap.size
 block:∀ k,k<w.heap.size->¬U k->w'.heap[k]?=w.heap[k]?
theorem Touch.refl (U:Nat->Prop) (w:World):Touch U w w:=⟨rfl,rfl,rfl,zj,fun _ _ _=>rfl⟩
theorem Touch.trans {U:Nat->Prop} {a b c:World} (h:Touch U a b) (k:Touch U b c):Touch U a c :=
 ⟨k.os.trans h.os,k.tape.trans h.tape,k.output.trans h.output,zm h.size k.size,fun i hi hu=>(k.block i (Nat.lt_of_lt_of_le hi h.size) hu).trans (h.block i hi hu)⟩
theorem Touch.mono {U V:Nat->Prop} {a b:World} (h:Touch U a b) (hU:∀ k,U k->V k):Touch V a b:=⟨h.os,h.tape,h.output,h.size,fun i hi hu=>h.block i hi fun hh=>hu (hU i hh)⟩
theorem Touch.weak {U V:Nat->Prop} {a b:World} (h:Touch U a b) (hU:∀ k,k<a.heap.size->U k->V k):Touch V a b:=⟨h.os,h.tape,h.output,h.size,fun i hi hu=>h.block i hi fun hh=>hu (hU i hi hh)⟩
theorem Touch.of_below {U:Nat->Prop} {a b:World} (h:Below a.heap.size a b):Touch U a b:=⟨h.os,h.tape,h.output,h.size,fun i hi _=>h.block i hi⟩
theorem Touch.to_below {U:Nat->Prop} {a b:World} {B:Nat} (h:Touch U a b) (hB:B<=a.heap.size) (hU:∀ k,k<B->¬U k):Below B a b:=⟨h.os,h.tape,h.output,h.size,fun i hi=>h.block i (by omega) (hU i hi)⟩
theorem Touch.drew {U:Nat->Prop} {a b:World} (h:Touch U a b):Touch U a b.drew:=⟨h.os,h.tape,h.output,h.size,h.block⟩
theorem Touch.alloc {U:Nat->Prop} {a b:World} (h:Touch U a b) (o:Obj):Touch U a (b.alloc o):=h.trans (Touch.of_below (zk.alloc zj o))
theorem Touch.setCell {U:Nat->Prop} {a b:World} (h:Touch U a b) {p:Addr} (hp:U p.block\/a.heap.size<=p.block) (v:Value):Touch U a (b.setCell p v) :=
 ⟨h.os,h.tape,h.output,by simpa using h.size,fun i hi hu=>by
  rw[Below.heap_setCell _ _ _ _ (fun e=>by subst e;rcases hp with hp | hp;exact hu hp;omega)]
  exact h.block i hi hu⟩
theorem Touch.grown {U:Nat->Prop} {a b c:World} {row:Option Nat} (h:Touch U a b) (hg:b.grownBy c row) (hr:∀ k,row=some k->U k\/a.heap.size<=k):Touch U a c :=
 ⟨hg.os.trans h.os,hg.tape.trans h.tape,hg.output.trans h.output,zm h.size hg.size,fun i hi hu=>by
  rw[hg.block i (Nat.lt_of_lt_of_le hi h.size) (fun e=>by rcases hr i e.symm with h1 | h1;exact hu h1;omega)]
  exact h.block i hi hu⟩
end Book
namespace Limb
open Go.RowKit Go.Sort Go.Fresh
theorem Own.keep {T:Nat} {w w':World} {base:Nat} {a:Option Addr} {n cap:Nat} {o:Nat->Int} (h:Own T w base a n cap o) (hk:∀ p,a=some p->w'.heap[p.block]?=w.heap[p.block]?):Own T w' base a n cap o:=by
 refine⟨h.le,?_,h.rng⟩
 rcases h.place with h0 | ⟨g,cur,ha,hbg,hg,hcap,hc⟩
 ·exact Or.inl h0
 ·exact Or.inr ⟨g,cur,ha,hbg,(hk _ ha).trans hg,hcap,hc⟩
theorem Own.blk {T:Nat} {w:World} {base:Nat} {a:Option Addr} {n cap:Nat} {o:Nat->Int} (h:Own T w base a n cap o) {p:Addr} (hp:a=some p):p=⟨p.block,0,none⟩/\base<=p.block/\p.block<w.heap.size:=by
 rcases h.place with h0 | ⟨g,cur,ha,hbg,hg,hcap,hc⟩
 ·rw[h0.1] at hp;cases hp
 ·obtain rfl:=Option.some.inj (ha.symm.trans hp);exact⟨rfl,hbg,lt_of_block hg⟩
theorem Own.some_of_pos {T:Nat} {w:World} {base:Nat} {a:Option Addr} {n cap:Nat} {o:Nat->Int} (h:Own T w base a n cap o) (hn:0<n):∃ g,a=some ⟨g,0,none⟩:=by
 rcases h.place with h0 | ⟨g,cur,ha,_⟩
 ·omega
 ·exact⟨g,ha⟩
theorem Own.fz {T:Nat} {w:World} {base g n cap:Nat} {o:Nat->Int} (h:Own T w base (some ⟨g,0,none⟩) n cap o) (i:Nat):w.frozen? ⟨g,i,none⟩=false:=by
 rcases h.place with h0 | ⟨g',cur,ha,hbg,hg,hcap,hc⟩
 ·cases h0.1
 ·cases ha;exact frozen_of_row w _ i cur T hg
theorem Own.cell {T:Nat} {w:World} {base g n cap:Nat} {o:Nat->Int} (h:Own T w base (some ⟨g,0,none⟩) n cap o) {i:Nat} (hi:i<n):w.cell? ⟨g,i,none⟩=some (.int .u32 (o i)):=by
 rcases h.place with h0 | ⟨g',cur,ha,hbg,hg,hcap,hc⟩
 ·cases h0.1
 ·cases ha
  rw[cell_of_row _ _ _ _ _ _ hg];exact hc i hi
theorem Own.congr {T:Nat} {w:World} {base:Nat} {a:Option Addr} {n cap:Nat} {o o':Nat->Int} (h:Own T w base a n cap o) (e:∀ i,i<n->o i=o' i):Own T w base a n cap o':=by
 refine⟨h.le,?_,fun i hi=>by rw[<- e i hi];exact h.rng i hi⟩
 rcases h.place with h0 | ⟨g,cur,ha,hbg,hg,hcap,hc⟩
 ·exact Or.inl h0
 ·exact Or.inr ⟨g,cur,ha,hbg,hg,hcap,fun i hi=>by rw[hc i hi];show some (Value.int .u32 (o i))=_;rw[e i hi]⟩
theorem Own.less {T:Nat} {w:World} {base:Nat} {a:Option Addr} {n cap L:Nat} {o:Nat->Int} (h:Own T w base a n cap o) (hL:L<=n):Own T w base a L cap o:=by
 refine⟨zm hL h.le,?_,fun i hi=>h.rng i (by omega)⟩
 rcases h.place with ⟨e0,h0,h1⟩ | ⟨g,cur,ha,hbg,hg,hcap,hc⟩
 ·exact Or.inl ⟨e0,by omega,by omega⟩
 ·exact Or.inr ⟨g,cur,ha,hbg,hg,hcap,fun i hi=>hc i (by omega)⟩
theorem Own.put {T:Nat} {w:World} {base g n cap:Nat} {o:Nat->Int} (h:Own T w base (some ⟨g,0,none⟩) n cap o) {t:Nat} (ht:t<n) {v:Int} (hv:0<=v/\v<=4294967295) :
  Own T (w.setCell ⟨g,t,none⟩ (.int .u32 v)) base (some ⟨g,0,none⟩) n cap (upd o t v):=by
 refine⟨h.le,?_,fun i hi=>?_⟩
 ·rcases h.place with h0 | ⟨g',cur,ha,hbg,hg,hcap,hc⟩
  ·cases h0.1
  ·cases ha
   refine Or.inr ⟨g,cur.setIfInBounds t (.int .u32 v),rfl,hbg,heap_setCell_same w g t cur T _ hg,by simpa using hcap,fun i hi=>?_⟩;rw[Array.getElem?_setIfInBounds];by_cases e:t=i
   ·subst e;have:=h.le;rw[if_pos rfl,if_pos (by omega)];show _=some (Value.int .u32 (upd o t v t));rw[upd_same]
   ·rw[if_neg e];show _=some (Value.int .u32 (upd o t v i));rw[upd_ne _ _ (fun h=>e h.symm)];exact hc i hi
 ·by_cases e:i=t
  ·subst e;rw[upd_same];exact hv
  ·rw[upd_ne _ _ e];exact h.rng i hi
end Limb
namespace Book
open Go.RowKit Go.Sort Go.Fresh Limb
theorem ucs_upd {o:Nat->Int} {n:Nat} {v:Int}:ucs (upd o n v) n=ucs o n:=by
 unfold ucs
 refine List.map_congr_left fun i hi=>?_
 rw[List.mem_range] at hi;show Value.int .u32 (upd o n v i)=.int .u32 (o i);rw[upd_ne _ _ (by omega)]
theorem push_any {w:World} {base:Nat} {a:Option Addr} {n cap:Nat} {o:Nat->Int} (h:Own 128 w base a n cap o) (hn:n<=1000000000) (hb:base<=w.heap.size) {gs:Nat} {v:Int} (hc:w.cell? ⟨gs,0,none⟩=some (.int .u32 v)) (hv:0<=v/\v<=4294967295) (ty m c:Nat) (hm:m=1) :
  ∃ a' cap' w',(Builtin.append_ #[28,28] ty #[.slice a n cap,.slice (some ⟨gs,0,none⟩) m c]).run Tryz.prog w=.ok (.slice a' (n+1) cap') w'/\Own 128 w' base a' (n+1) cap' (upd o n v) /\
   ((a'=a/\cap'=cap/\w.grownBy w' (a.map (·.block)))\/((∃ g,a'=some ⟨g,0,none⟩/\w.heap.size<=g)/\w.grownBy w' none/\cap<n+1)):=by
 subst hm;obtain⟨i0,hi,hz0,hz1,hz2⟩:=info_parts info32
 have hnews:∀ j u,[Value.int .u32 v][j]?=some u->w.cell? ((⟨gs,0,none⟩:Addr).add j)=some u:=by
  intro j u hj
  match j,hj with
  | 0,hj =>
   simp at hj;subst hj;rw[Addr.add_lit];exact hc
 have h1:∀ u∈[Value.int .u32 v],u.oneCell'=true:=by intro u hu;simp at hu;subst hu;rfl
 have hrng:∀ i,i<n+1->0<=upd o n v i/\upd o n v i<=4294967295:=by
  intro i hi;by_cases e:i=n
  ·subst e;rw[upd_same];exact hv
  ·rw[upd_ne _ _ e];exact h.rng i (by omega)
 have grownOwn:∀ old,old<n+1->(w.drew.alloc (.cells ((ucs o n).toArray++[Value.int .u32 v].toArray++Builtin.zeroCells (Value.int .u32 0).cells (grownCap w (n+1) old 128-(n+1))) 128)).heap.size=w.heap.size+1 /\
   Own 128 (w.drew.alloc (.cells ((ucs o n).toArray++[Value.int .u32 v].toArray++Builtin.zeroCells (Value.int .u32 0).cells (grownCap w (n+1) old 128-(n+1))) 128)) base (some ⟨w.heap.size,0,none⟩) (n+1) (grownCap w (n+1) old 128) (upd o n v) /\
   w.grownBy (w.drew.alloc (.cells ((ucs o n).toArray++[Value.int .u32 v].toArray++Builtin.zeroCells (Value.int .u32 0).cells (grownCap w (n+1) old 128-(n+1))) 128)) none:=by
  intro old ho;have hge:=grownCap_ge w (n+1) old 128;refine⟨by simp,⟨hge,Or.inr ⟨w.heap.size,_,rfl,hb,heap_alloc_new w.drew _,?_,fun i hi=>?_⟩,hrng⟩,⟨rfl,rfl,rfl,by simp,fun k hk _=>heap_alloc_old w.drew _ hk⟩⟩
  ·simp only[Array.size_append,List.size_toArray,size_zeroCells,ucs_len,List.length_cons,List.length_nil];show _<=n+(0+1)+_*1;omega
  ·rw[Array.getElem?_append_left (by simp only[Array.size_append,List.size_toArray,ucs_len,List.length_cons,List.length_nil];omega),<- Array.getElem?_toList,Array.toList_append];show(ucs o n++[Value.int .u32 v])[i]?=some (uc (upd o n v) i);rw[<- ucs_get (upd o n v) (n+1) i hi,ucs_succ,ucs_upd];show _=(ucs o n++[Value.int .u32 (upd o n v n)])[i]?;rw[upd_same]
 rcases h.place with ⟨rfl,rfl,rfl⟩ | ⟨g,cur,rfl,hbg,hg,hcap,hcc⟩
 ·have hr:=run_append_nil (P:=Tryz.prog) w 28 ty 128 i0 (.int .u32 0) Tryz.underlying28 hi hz0 ⟨gs,0,none⟩ 1 c [.int .u32 v] (by rw[hz1];rfl) hnews (by omega) (by omega) (by rw[hz2];omega);have hgr:=grownOwn 0 (by omega);simp only[Nat.zero_add,ucs,List.range_zero,List.map_nil,Array.empty_append] at hgr;refine⟨_,_,_,hr,hgr.2.1,Or.inr ⟨⟨_,rfl,zj⟩,hgr.2.2,by omega⟩⟩
 ·by_cases hroom:n+1<=cap
  ·have hr:=run_append_room (P:=Tryz.prog) w 28 ty 128 i0 Tryz.underlying28 hi g n cap cur hg ⟨gs,0,none⟩ 1 c [.int .u32 v] (by rw[hz1];rfl) hnews h1 hroom (by rw[hz1];simp;omega);refine⟨_,_,_,hr,⟨hroom,Or.inr ⟨g,_,rfl,hbg,setRow_heap w g cur _ _ _ hg,?_,fun i hi=>?_⟩,hrng⟩,Or.inl ⟨rfl,rfl,⟨rfl,rfl,rfl,by simp,fun k _ hk=>setRow_other w g k _ (fun e=>hk (by simp[e]))⟩⟩⟩
   ·simp only[List.size_toArray,List.length_append,List.length_take,List.length_drop,Array.length_toList,List.length_cons,List.length_nil];omega
   ·rw[hz1,Nat.mul_one];rw[List.getElem?_toArray,List.append_assoc]
    have hlt:(cur.toList.take n).length=n:=by simp;omega
    by_cases e:i<n
    ·rw[List.getElem?_append_left (by rw[hlt];exact e),List.getElem?_take,if_pos e];have:=hcc i e;rw[Array.getElem?_toList,this];show some (Value.int .u32 (o i))=some (Value.int .u32 (upd o n v i));rw[upd_ne _ _ (by omega)]
    ·obtain rfl:i=n:=by omega
     rw[List.getElem?_append_right (by rw[hlt];exact zj),hlt,Nat.sub_self];show some (Value.int .u32 v)=some (Value.int .u32 (upd o i v i));rw[upd_same]
  ·have holds:∀ j u,(ucs o n)[j]?=some u->w.cell? ((⟨g,0,none⟩:Addr).add j)=some u:=by
    intro j u hj;obtain⟨hj1,rfl⟩:=ucs_get' hj;rw[Addr.add_lit,Nat.zero_add,cell_of_row _ _ _ _ _ _ hg];exact hcc j hj1
   have hle:=h.le;have hr:=run_append_grow (P:=Tryz.prog) w 28 ty 128 i0 (.int .u32 0) Tryz.underlying28 hi hz0 ⟨g,0,none⟩ n cap (ucs o n) (by rw[ucs_len,hz1];omega) holds ⟨gs,0,none⟩ 1 c [.int .u32 v] (by rw[hz1];rfl) hnews (by omega) (by omega) (growslice_fits (by omega) (by rw[hz2];omega));have hgr:=grownOwn cap (by omega);exact⟨_,_,_,hr,hgr.2.1,Or.inr ⟨⟨_,rfl,zj⟩,hgr.2.2,by omega⟩⟩
theorem wpList_push {ops:Array Oper} {rest:List Oper} {oo:Oper} {ac:Act} {Q:Exit->Act->World->Prop} (hgd:oo.guard=none) (s x:Operand)
  (ho:oo.op=.call { callee:=.builtin .append,args:=#[s,x],argTypes:=#[28,28] })
  {w:World} {base:Nat} {a:Option Addr} {n cap:Nat} {o:Nat->Int} (hs:ac.eval s=.slice a n cap) (h:Own 128 w base a n cap o) (hn:n<=1000000000) (hb:base<=w.heap.size)
  {gs:Nat} {v:Int} {m c:Nat} (hx:ac.eval x=.slice (some ⟨gs,0,none⟩) m c) (hc:w.cell? ⟨gs,0,none⟩=some (.int .u32 v)) (hv:0<=v/\v<=4294967295) (hm:m=1)
  (hK:∀ a' cap' w',Own 128 w' base a' (n+1) cap' (upd o n v)->((a'=a/\cap'=cap/\w.grownBy w' (a.map (·.block)))\/((∃ g,a'=some ⟨g,0,none⟩/\w.heap.size<=g)/\w.grownBy w' none/\cap<n+1)) ->
   wpList Tryz.prog ops Q rest (ac.put oo.dst (.slice a' (n+1) cap')) w'):wpList Tryz.prog ops Q (oo :: rest) ac w:=by
 refine wpList_plain hgd fun K hK'=>?_
 obtain⟨a',cap',w',hr,h2,h3⟩:=push_any h hn hb hc hv oo.type m c hm;unfold Oper.wp execOp;simp only[ho,resolve,invoke,builtin,Sem.run_bind,Sem.run_pure,Result.andThen_ok,List.map_toArray,List.map_cons,List.map_nil,hs,hx,hr];exact hK' _ _ (hK _ _ _ h2 h3)
def mk (j:Nat):Int:=1001+j
end Book
namespace Limb
open Go.RowKit Go.Sort Go.Fresh
theorem radd_any (s1:Bool) (a1:Option Addr) (n1 c1:Nat) (o1:Nat->Int) (s2:Bool) (a2:Option Addr) (n2 c2:Nat) (o2:Nat->Int) (w:World)
  (h1:Rd w a1 n1 o1) (hn1:n1<=100000000) (hc1:n1<=c1) (h2:Rd w a2 n2 o2) (hn2:n2<=100000000) (hc2:n2<=c2) :
  Calls Tryz.prog 195 #[numV s1 a1 n1 c1,numV s2 a2 n2 c2] w (ResF w (valN s1 n1 o1+valN s2 n2 o2)):=by
 obtain⟨x1,d1,r1,l1,m1,O1⟩:=fit_any s1 a1 n1 c1 o1 w h1 (by omega) hc1;obtain⟨x2,d2,r2,l2,m2,O2⟩:=fit_any s2 a2 n2 c2 o2 w h2 (by omega) hc2
 generalize valN s1 n1 o1=z1 at r1 l1 m1 O1 ⊢
 have HO1:=qh O1;clear O1
 generalize valN s2 n2 o2=z2 at r2 l2 m2 O2 ⊢
 have HO2:=qh O2;clear O2;have HR:=qh (And.intro r1 r2);clear h1 h2 r1 r2;have HB1:=qh (((Bx.new w 30 (.bool s1) (.slice a1 n1 c1)).alloc (.cells #[.bool s2,.slice a2 n2 c2] 30)).alloc (.cells #[.bool false,.slice none 0 0] 30));have HB2:=qh ((Bx.new2 w (.cells #[.bool s1,.slice a1 n1 c1] 30) 30 (.bool s2) (.slice a2 n2 c2)).alloc (.cells #[.bool false,.slice none 0 0] 30));have HB3:=qh (Bx.new3 w (.cells #[.bool s1,.slice a1 n1 c1] 30) (.cells #[.bool s2,.slice a2 n2 c2] 30) 30 (.bool false) (.slice none 0 0));go_enter Tryz.func195,Tryz.ntmps195;go_wp2_with fail
 refine(HO1.o _ ?_).mono ?_
 ·exact qg
 rintro e w1 ⟨rfl,hb1⟩;have B1:=HB1.o.bl hb1;have B2:=HB2.o.bl hb1;have B3:=HB3.o.bl hb1;have G1:=qh ((zk.alloc (by go_size) _ |>.alloc (by go_size) _ |>.alloc (by go_size) _).trans (hb1.mono (by go_size)):Below w.heap.size w w1);have K1:=qh B1;have K2:=qh B2;have K3:=qh B3;obtain⟨b10,b11,b12,b13⟩:=B1.all;obtain⟨b20,b21,b22,b23⟩:=B2.all;clear HB1 HB2 HB3 B1 B2 B3 hb1;go_wp2_with fail
 refine(HO2.o _ ?_).mono ?_
 ·have:=G1.o;exact qg
 rintro e w2 ⟨rfl,hb2⟩;have B1:=(K1.o.set (.bool (decide (z1<0))) (.slice x1 (lenB z1.natAbs) d1)).below hb2 (by simpa using K1.o.lt);have B2:=((K2.o.other (a:=⟨w.heap.size,0,none⟩) (by dsimp only;omega) (.bool (decide (z1<0)))).other (a:=⟨w.heap.size,1,none⟩) (by dsimp only;omega) (.slice x1 (lenB z1.natAbs) d1)).below hb2 (by simpa using K2.o.lt);have B3:=((K3.o.other (a:=⟨w.heap.size,0,none⟩) (by dsimp only;omega) (.bool (decide (z1<0)))).other (a:=⟨w.heap.size,1,none⟩) (by dsimp only;omega) (.slice x1 (lenB z1.natAbs) d1)).below hb2 (by simpa using K3.o.lt);have G2:=qh (((G1.o.setCell (by simp) _).setCell (by simp) _).trans (hb2.mono (by simpa using G1.o.size)):Below w.heap.size w w2);have C1:=qh B1;have C2:=qh B2;have C3:=qh B3;obtain⟨b10,b11,b12,b13⟩:=B1.all;obtain⟨b20,b21,b22,b23⟩:=B2.all;clear K1 K2 K3 B1 B2 B3 hb2 G1
 go_upto_region 3 with (fail)
 obtain⟨W,hW⟩:∃ W,W=((w2.setCell ⟨w.heap.size+1,0,none⟩ (.bool (decide (z2<0)))).setCell ⟨w.heap.size+1,1,none⟩ (.slice x2 (lenB z2.natAbs) d2)):=⟨_,rfl⟩;have B1:=(C1.o.other (a:=⟨w.heap.size+1,0,none⟩) (by dsimp only;omega) (.bool (decide (z2<0)))).other (a:=⟨w.heap.size+1,1,none⟩) (by dsimp only;omega) (.slice x2 (lenB z2.natAbs) d2);have B2:=C2.o.set (.bool (decide (z2<0))) (.slice x2 (lenB z2.natAbs) d2);have B3:=(C3.o.other (a:=⟨w.heap.size+1,0,none⟩) (by dsimp only;omega) (.bool (decide (z2<0)))).other (a:=⟨w.heap.size+1,1,none⟩) (by dsimp only;omega) (.slice x2 (lenB z2.natAbs) d2);have G3:=(G2.o.setCell (p:=⟨w.heap.size+1,0,none⟩) (by simp) (.bool (decide (z2<0)))).setCell (p:=⟨w.heap.size+1,1,none⟩) (by simp) (.slice x2 (lenB z2.natAbs) d2);rw[<- hW] at B1 B2 B3 G3;rw[show((w2.setCell ⟨w.heap.size+1,0,none⟩ (.bool (decide (z2<0)))).setCell ⟨w.heap.size+1,1,none⟩ (.slice x2 (lenB z2.natAbs) d2))=W from hW.symm];have HG:=qh G3;have HB1:=qh B1;have HB2:=qh B2;have HB3:=qh B3;have HS1:=qh (fun (w':World) (hb:Below W.heap.size W w')=>And.intro (HB1.o.bl hb).c0 (HB1.o.bl hb).c1);have HS2:=qh (fun (w':World) (hb:Below W.heap.size W w')=>And.intro (HB2.o.bl hb).c0 (HB2.o.bl hb).c1);clear b10 b11 b12 b13 b20 b21 b22 b23 C1 C2 C3 hW G2 HO1 HO2;have HQ:=qh (And.intro (HR.o.1.below G3) (HR.o.2.below G3));have HL:=qh (And.intro (show lenB z1.natAbs<=100000000 by omega) (show lenB z2.natAbs<=100000000 by omega))
 obtain⟨b10,b11,b12,b13⟩:=B1.all;obtain⟨b20,b21,b22,b23⟩:=B2.all;clear B1 B2 B3 G3;by_cases hs:decide (z1<0)=decide (z2<0)
 ·obtain⟨N,hN⟩:∃ N,N=z1.natAbs+z2.natAbs:=⟨_,rfl⟩;obtain⟨p1,p2⟩:=plus_plain z1 z2 hs;rw[<- hN] at p1;rw[<- p1] at p2;obtain⟨sB,hsB⟩:∃ sB,sB=decide (z1+z2<0):=⟨_,rfl⟩;rw[<- hsB] at p2;have HSB:=qh p2;have HE:=qh (And.intro p1 hsB);have AMT:=qh (fun (w':World) (hb:Below W.heap.size W w')=>more_own z1.natAbs z2.natAbs x1 x2 d1 d2 w' (HQ.o.1.below hb) (HQ.o.2.below hb) HL.o.1 HL.o.2);rw[<- hN] at AMT;have HSA:=HS1;have HSC:=HS2
  have e0:(decide (z1<0)==decide (z2<0))=true:=by rw[hs];simp
  clear p1 p2 hN hsB hs
  go_upto_region 4 with (fail)
  refine wp_region_fresh 8 (spOf [(6,Sp.made (fun x:Option Addr × Nat × Nat=>.slice x.1 x.2.1 x.2.2) (AmtF W.heap.size N)),
    (7,Sp.made (fun x:Option Addr × Nat=>numV sB x.1 (lenB N) x.2) (fun x w'=>Own 128 w' W.heap.size x.1 (lenB N) x.2 (dgi N)))])
   (fun w'=>Below W.heap.size W w') (by kernel_rfl) (by kernel_rfl)
   (spOf_cons (Sp.made_keeps AmtF.keeps) (spOf_cons (Sp.made_keeps fun x w w' h hb=>h.below hb) spOf_nil)) (fun _ _ h hb=>h.trans (hb.mono h.size)) (zk.drew) ?_
  simp only[zx,zy,zv,zw]
  iterate 6
   (refine wpF_reads rfl rfl ?_ (fun w' hw'=>?_) ?_;rotate_left;· (have hb':=Has.world hw';(have hs:=HSA.o _ hb';have hs:=HSC.o _ hb');clear hw';go_simp;try rfl))
  (refine wpF_spec rfl rfl (fun w' hw'=>?_) ?_;· (have hb':=Has.world hw';go_simp;((refine(AMT.o w' hb').mono ?_;rintro e w'' ⟨a,K,cap,o,rfl,q1,q2,q3,q4,q5⟩;exact⟨_,rfl,⟨⟨a,K,cap,rfl⟩,⟨a,K,cap,rfl,o,q1,q2,q3,q4.mono hb'.size⟩⟩,q5⟩))))
  rintro _ ⟨x,rfl⟩
  (refine wpF_spec rfl rfl (fun w' hw'=>?_) ?_;· (have hb':=Has.world hw';go_simp;((have h7:=amt_of (x:=x) (b:=W.heap.size) (N:=N) (hw'.fact 6 (by kernel_rfl));obtain⟨o,q1,q2,q3,q4⟩:=h7;refine(num_own _ sB _ _ _ N W.heap.size o w' q4 q1 q3 q2 HSB.o).mono ?_;rintro e w'' ⟨rfl,hb⟩;exact⟨_,rfl,⟨⟨x.1,x.2.2,rfl⟩,⟨x.1,x.2.2,rfl,(own_fit q4 q1 q2).below hb⟩⟩,hb⟩))))
  rintro _ ⟨y,rfl⟩;refine wpF_nil (fun w5 hb5 hF5=>?_);have OA:=own_numc (T:=128) (b:=W.heap.size) (s:=sB) (L:=lenB N) (o:=dgi N) (x:=y) (hF5 7);have HO:=qh OA;have B3:=HB3.o.bl hb5;have HB5:=qh B3;obtain⟨b30,b31,b32,b33⟩:=B3.all;have HG5:=qh (HG.o.trans (hb5.mono HG.o.size));have hz4:=HB3.o.lt;have hz5:=HG.o.size;clear hF5 OA B3 hb5 HS1 HS2;go_wp2_with fail
  unfold ResF;rw[<- HE.o.1,<- HE.o.2];refine bodyPost_ret (results_cell rfl _ _ _ _ _ _ _ rfl (HB5.o.set _ _) Tryz.underlying30 rfl (by kernel_rfl)) rfl ⟨y.1,y.2,rfl,?_,?_⟩
  ·exact((HO.o.oz).oz).mono hz5
  ·exact(HG5.o.sc).sc
 ·by_cases hlt:z1.natAbs<z2.natAbs
  ·obtain⟨N,hN⟩:∃ N,N=z2.natAbs-z1.natAbs:=⟨_,rfl⟩;obtain⟨p1,p2⟩:=minus_plain z2 z1 (by omega) (fun h=>hs h.symm);rw[<- hN,Int.add_comm z2 z1] at p1;rw[Int.add_comm z2 z1,<- p1] at p2;obtain⟨sB,hsB⟩:∃ sB,sB=decide (z1+z2<0):=⟨_,rfl⟩;rw[<- hsB] at p2;have HSB:=qh p2;have HE:=qh (And.intro p1 hsB);have AMT:=qh (fun (w':World) (hb:Below W.heap.size W w')=>less_own z2.natAbs z1.natAbs x2 x1 d2 d1 w' (HQ.o.2.below hb) (HQ.o.1.below hb) HL.o.2 (by omega));have AM:=qh (order_any z1.natAbs z2.natAbs x1 x2 d1 d2 W HQ.o.1 HQ.o.2 (by omega) (by omega));rw[show cmpZ (z1.natAbs:Int) (z2.natAbs:Int) = -1 from cmpZ_lt (by omega)] at AM;rw[<- hN] at AMT
   have e0:(decide (z1<0)==decide (z2<0))=false:=by simpa using hs
   clear p1 p2 hN hsB hs hlt
   go_upto_if 27 with (first
    | (go_at_call 231;refine AM.o.mono ?_;rintro e w2 ⟨rfl,m,rfl⟩))
   go_upto_region 6 with (fail)
   have hbm:∃ V,V=W.drewN m/\Below W.heap.size W V:=⟨_,rfl,bdrewN zk m⟩;obtain⟨W,hV,hbm⟩:=hbm;rw[<- hV];have HS1:=qh (fun (w':World) (hb:Below W.heap.size W w')=>HS1.o w' (hbm.trans (hb.mono hbm.size)));have HS2:=qh (fun (w':World) (hb:Below W.heap.size W w')=>HS2.o w' (hbm.trans (hb.mono hbm.size)));have AMT:=qh (fun (w':World) (hb:Below W.heap.size W w')=>AMT.o w' (hbm.trans (hb.mono hbm.size)));have HB3:=qh (HB3.o.bl hbm);have HG:=qk HG hbm;clear hV hbm AM;have HSA:=HS2;have HSC:=HS1
   refine wp_region_fresh 8 (spOf [(6,Sp.made (fun x:Option Addr × Nat × Nat=>.slice x.1 x.2.1 x.2.2) (AmtF W.heap.size N)),
     (7,Sp.made (fun x:Option Addr × Nat=>numV sB x.1 (lenB N) x.2) (fun x w'=>Own 128 w' W.heap.size x.1 (lenB N) x.2 (dgi N)))])
    (fun w'=>Below W.heap.size W w') (by kernel_rfl) (by kernel_rfl)
    (spOf_cons (Sp.made_keeps AmtF.keeps) (spOf_cons (Sp.made_keeps fun x w w' h hb=>h.below hb) spOf_nil)) (fun _ _ h hb=>h.trans (hb.mono h.size)) (zk.drew) ?_
   simp only[zx,zy,zv,zw]
   iterate 6
    (refine wpF_reads rfl rfl ?_ (fun w' hw'=>?_) ?_;rotate_left;· (have hb':=Has.world hw';(have hs:=HSA.o _ hb';have hs:=HSC.o _ hb');clear hw';go_simp;try rfl))
   (refine wpF_spec rfl rfl (fun w' hw'=>?_) ?_;· (have hb':=Has.world hw';go_simp;((refine(AMT.o w' hb').mono ?_;rintro e w'' ⟨a,K,cap,o,rfl,q1,q2,q3,q4,q5⟩;exact⟨_,rfl,⟨⟨a,K,cap,rfl⟩,⟨a,K,cap,rfl,o,q1,q2,q3,q4.mono hb'.size⟩⟩,q5⟩))))
   rintro _ ⟨x,rfl⟩
   (refine wpF_spec rfl rfl (fun w' hw'=>?_) ?_;· (have hb':=Has.world hw';go_simp;((have h7:=amt_of (x:=x) (b:=W.heap.size) (N:=N) (hw'.fact 6 (by kernel_rfl));obtain⟨o,q1,q2,q3,q4⟩:=h7;refine(num_own _ sB _ _ _ N W.heap.size o w' q4 q1 q3 q2 HSB.o).mono ?_;rintro e w'' ⟨rfl,hb⟩;exact⟨_,rfl,⟨⟨x.1,x.2.2,rfl⟩,⟨x.1,x.2.2,rfl,(own_fit q4 q1 q2).below hb⟩⟩,hb⟩))))
   rintro _ ⟨y,rfl⟩;refine wpF_nil (fun w5 hb5 hF5=>?_);have OA:=own_numc (T:=128) (b:=W.heap.size) (s:=sB) (L:=lenB N) (o:=dgi N) (x:=y) (hF5 7);have HO:=qh OA;have B3:=HB3.o.bl hb5;have HB5:=qh B3;obtain⟨b30,b31,b32,b33⟩:=B3.all;have HG5:=qh (HG.o.trans (hb5.mono HG.o.size));have hz4:=HB3.o.lt;have hz5:=HG.o.size;clear hF5 OA B3 hb5 HS1 HS2;go_wp2_with fail
   unfold ResF;rw[<- HE.o.1,<- HE.o.2];refine bodyPost_ret (results_cell rfl _ _ _ _ _ _ _ rfl (HB5.o.set _ _) Tryz.underlying30 rfl (by kernel_rfl)) rfl ⟨y.1,y.2,rfl,?_,?_⟩
   ·exact((HO.o.oz).oz).mono hz5
   ·exact(HG5.o.sc).sc
  ·obtain⟨N,hN⟩:∃ N,N=z1.natAbs-z2.natAbs:=⟨_,rfl⟩;obtain⟨p1,p2⟩:=minus_plain z1 z2 (by omega) hs;rw[<- hN] at p1;rw[<- p1] at p2;obtain⟨sB,hsB⟩:∃ sB,sB=decide (z1+z2<0):=⟨_,rfl⟩;rw[<- hsB] at p2;have HSB:=qh p2;have HE:=qh (And.intro p1 hsB);have AMT:=qh (fun (w':World) (hb:Below W.heap.size W w')=>less_own z1.natAbs z2.natAbs x1 x2 d1 d2 w' (HQ.o.1.below hb) (HQ.o.2.below hb) HL.o.1 (by omega));have AM:=qh (order_any z1.natAbs z2.natAbs x1 x2 d1 d2 W HQ.o.1 HQ.o.2 (by omega) (by omega))
   have hc:decide (cmpZ (z1.natAbs:Int) (z2.natAbs:Int)<0)=false:=by
    refine zo ?_
    rcases Nat.lt_or_ge z2.natAbs z1.natAbs with h | h
    ·rw[cmpZ_gt (by omega)];omega
    ·rw[cmpZ_eq (by omega)];omega
   rw[<- hN] at AMT
   have e0:(decide (z1<0)==decide (z2<0))=false:=by simpa using hs
   generalize cmpZ (z1.natAbs:Int) (z2.natAbs:Int)=cc at AM hc
   clear p1 p2 hN hsB hs hlt
   go_upto_if 27 with (first
    | (go_at_call 231;refine AM.o.mono ?_;rintro e w2 ⟨rfl,m,rfl⟩))
   go_upto_region 7 with (fail)
   have hbm:∃ V,V=W.drewN m/\Below W.heap.size W V:=⟨_,rfl,bdrewN zk m⟩;obtain⟨W,hV,hbm⟩:=hbm;rw[<- hV];have HS1:=qh (fun (w':World) (hb:Below W.heap.size W w')=>HS1.o w' (hbm.trans (hb.mono hbm.size)));have HS2:=qh (fun (w':World) (hb:Below W.heap.size W w')=>HS2.o w' (hbm.trans (hb.mono hbm.size)));have AMT:=qh (fun (w':World) (hb:Below W.heap.size W w')=>AMT.o w' (hbm.trans (hb.mono hbm.size)));have HB3:=qh (HB3.o.bl hbm);have HG:=qk HG hbm;clear hV hbm AM;have HSA:=HS1;have HSC:=HS2
   refine wp_region_fresh 8 (spOf [(6,Sp.made (fun x:Option Addr × Nat × Nat=>.slice x.1 x.2.1 x.2.2) (AmtF W.heap.size N)),
     (7,Sp.made (fun x:Option Addr × Nat=>numV sB x.1 (lenB N) x.2) (fun x w'=>Own 128 w' W.heap.size x.1 (lenB N) x.2 (dgi N)))])
    (fun w'=>Below W.heap.size W w') (by kernel_rfl) (by kernel_rfl)
    (spOf_cons (Sp.made_keeps AmtF.keeps) (spOf_cons (Sp.made_keeps fun x w w' h hb=>h.below hb) spOf_nil)) (fun _ _ h hb=>h.trans (hb.mono h.size)) (zk.drew) ?_
   simp only[zx,zy,zv,zw]
   iterate 6
    (refine wpF_reads rfl rfl ?_ (fun w' hw'=>?_) ?_;rotate_left;· (have hb':=Has.world hw';(have hs:=HSA.o _ hb';have hs:=HSC.o _ hb');clear hw';go_simp;try rfl))
   (refine wpF_spec rfl rfl (fun w' hw'=>?_) ?_;· (have hb':=Has.world hw';go_simp;((refine(AMT.o w' hb').mono ?_;rintro e w'' ⟨a,K,cap,o,rfl,q1,q2,q3,q4,q5⟩;exact⟨_,rfl,⟨⟨a,K,cap,rfl⟩,⟨a,K,cap,rfl,o,q1,q2,q3,q4.mono hb'.size⟩⟩,q5⟩))))
   rintro _ ⟨x,rfl⟩
   (refine wpF_spec rfl rfl (fun w' hw'=>?_) ?_;· (have hb':=Has.world hw';go_simp;((have h7:=amt_of (x:=x) (b:=W.heap.size) (N:=N) (hw'.fact 6 (by kernel_rfl));obtain⟨o,q1,q2,q3,q4⟩:=h7;refine(num_own _ sB _ _ _ N W.heap.size o w' q4 q1 q3 q2 HSB.o).mono ?_;rintro e w'' ⟨rfl,hb⟩;exact⟨_,rfl,⟨⟨x.1,x.2.2,rfl⟩,⟨x.1,x.2.2,rfl,(own_fit q4 q1 q2).below hb⟩⟩,hb⟩))))
   rintro _ ⟨y,rfl⟩;refine wpF_nil (fun w5 hb5 hF5=>?_);have OA:=own_numc (T:=128) (b:=W.heap.size) (s:=sB) (L:=lenB N) (o:=dgi N) (x:=y) (hF5 7);have HO:=qh OA;have B3:=HB3.o.bl hb5;have HB5:=qh B3;obtain⟨b30,b31,b32,b33⟩:=B3.all;have HG5:=qh (HG.o.trans (hb5.mono HG.o.size));have hz4:=HB3.o.lt;have hz5:=HG.o.size;clear hF5 OA B3 hb5 HS1 HS2;go_wp2_with fail
   unfold ResF;rw[<- HE.o.1,<- HE.o.2];refine bodyPost_ret (results_cell rfl _ _ _ _ _ _ _ rfl (HB5.o.set _ _) Tryz.underlying30 rfl (by kernel_rfl)) rfl ⟨y.1,y.2,rfl,?_,?_⟩
   ·exact((HO.o.oz).oz).mono hz5
   ·exact(HG5.o.sc).sc
end Limb
namespace Book
open Go.RowKit Go.Sort Go.Fresh Limb
def bkf (k:Nat) (v:Value) (i:Nat):Value:=if i=0 then .int .i64 k else if i=2 then v else .slice none 0 0
def Arr (w:World) (vb k:Nat) (A:Nat->Option Addr) (N C:Nat->Nat) (X:Nat->Value):Prop :=
 ∃ m f,w.rowIs vb 127 m f/\∀ j,j<k->3*j+2<m/\f (3*j)=.slice (A j) (N j) (C j)/\f (3*j+1)=X j/\f (3*j+2)=.int .i64 ((j:Int)+1)
theorem Arr.cells {w:World} {vb k:Nat} {A:Nat->Option Addr} {N C:Nat->Nat} {X:Nat->Value} (h:Arr w vb k A N C X) {j:Nat} (hj:j<k) :
  w.cell? ⟨vb,j*3,none⟩=some (.slice (A j) (N j) (C j))/\w.cell? ⟨vb,j*3+1,none⟩=some (X j)/\w.cell? ⟨vb,j*3+2,none⟩=some (.int .i64 ((j:Int)+1))/\(∀ i,w.frozen? ⟨vb,i,none⟩=false)/\vb<w.heap.size:=by
 obtain⟨m,f,hR,hE⟩:=h;obtain⟨h1,h2,h3,h4⟩:=hE j hj;rw[Nat.mul_comm j 3];exact⟨by rw[<- h2];exact hR.cell (by omega),by rw[<- h3];exact hR.cell (by omega),by rw[<- h4];exact hR.cell (by omega),hR.frozen,hR.lt⟩
theorem Arr.keep {w w':World} {vb k:Nat} {A:Nat->Option Addr} {N C:Nat->Nat} {X:Nat->Value} (h:Arr w vb k A N C X) (e:w'.heap[vb]?=w.heap[vb]?):Arr w' vb k A N C X:=by
 obtain⟨m,f,hR,hE⟩:=h;exact⟨m,f,hR.of_block e,hE⟩
theorem Arr.lt {w:World} {vb k:Nat} {A:Nat->Option Addr} {N C:Nat->Nat} {X:Nat->Value} (h:Arr w vb k A N C X):vb<w.heap.size:=by
 obtain⟨m,f,hR,hE⟩:=h;exact hR.lt
def UA (k:Nat) (A:Nat->Option Addr) (g:Nat):Prop:=∃ j,j<k/\∃ p,A j=some p/\p.block=g
def Part (k:Nat) (A:Nat->Option Addr):Prop:=∀ i,i<k->∀ j,j<k->i≠j->∀ p q,A i=some p->A j=some q->p.block≠q.block
theorem own_step {k i t g:Nat} {A:Nat->Option Addr} {N C:Nat->Nat} {O:Nat->Nat->Int} {w:World} {v:Int} (hD:Part k A) (hO:∀ j,j<k->Own 128 w 0 (A j) (N j) (C j) (O j)) (hi:i<k) (hg:A i=some ⟨g,0,none⟩) (ht:t<N i) (hv:0<=v/\v<=4294967295) :
  ∀ j,j<k->Own 128 (w.setCell ⟨g,t,none⟩ (.int .u32 v)) 0 (A j) (N j) (C j) (if j=i then upd (O i) t v else O j):=by
 intro j hj;by_cases e:j=i
 ·subst e;rw[if_pos rfl,hg];have h:=hO j hj;rw[hg] at h;exact h.put ht hv
 ·rw[if_neg e]
  exact(hO j hj).keep fun p hp=>Below.heap_setCell _ _ _ _ (fun he=>hD j hj i hi e p _ hp hg he)
def hcell (a:Option Addr) (n c:Nat) (x:Value) (q:Int) (i:Nat):Value:=if i=0 then .slice a n c else if i=1 then x else .int .i64 q
end Book
namespace Limb
open Go.RowKit Go.Sort Go.Fresh
theorem pw_div_succ (M k:Nat):M/pw k/1000000000=M/pw (k+1):=by rw[pw_succ,Nat.div_div_eq_div_mul]
theorem pw_div_pos {M k:Nat}:0<M/pw k↔k<lenB M:=by
 constructor
 ·intro h;refine lenB_ge ?_
  rcases Nat.lt_or_ge M (pw k) with h1 | h1
  ·rw[Nat.div_eq_of_lt h1] at h;omega
  ·exact h1
 ·intro h;exact Nat.div_pos (pw_le_of_lenB h) (pw_pos k)
theorem u64_of_neg {M:Nat} (h0:0<M) (h1:M<=9223372036854775808):∃ U,IntKind.u64.wrap (-(M:Int))=U/\IntKind.u64.wrap (-U)=(M:Int):=by
 refine⟨18446744073709551616-(M:Int),?_,?_⟩
 ·show(-(M:Int))%18446744073709551616=_;omega
 ·show(-(18446744073709551616-(M:Int)))%18446744073709551616=_;omega
theorem len3 {M:Nat} (h:M<=9223372036854775808):lenB M<=3:=lenB_le (Nat.lt_of_le_of_lt h (by decide))
theorem neg_canon (M:Nat) (h0:0<M):(true&&decide (0<lenB M))=decide (-(M:Int)<0):=by
 have h1:0<lenB M:=by
  have:=lenB_pos (m:=M) (by omega);omega
 rw[decide_eq_true h1,decide_eq_true (show -(M:Int)<0 by omega)];rfl
theorem pos_canon (M:Nat):(false&&decide (0<lenB M))=decide ((M:Int)<0):=by
 rw[zo (show ¬(M:Int)<0 by omega)];rfl
theorem of64_pos (M:Nat) (w:World) (h:M<=9223372036854775807):Calls Tryz.prog 106 #[.int .i64 (M:Int)] w (ResN w (M:Int)):=by
 obtain⟨i0,hi,hz0,hz1,hz2⟩:=info_parts info32;have e1:=IntWalk.u64_in (M:Int) (by omega)
 have hlt:¬(M:Int)<0:=by omega
 have hge:(0:Int)<=(M:Int):=by omega
 have HM:=qh (show M<=9223372036854775808 by omega);clear h;go_enter Tryz.func106,Tryz.ntmps106;have HLN:=qh (len3 HM.o);go_wp2_with fail
 go_loopw [3,4] (fun x v wr=>∃ k:Nat,k<=lenB M/\x=.int .u64 ((M/pw k:Nat):Int)/\wr.ownsRow (w.heap.size+1) 128 1 v k (ucs (dgi M) k)/\Below w.heap.size w wr/\Bx wr w.heap.size 30 (.bool false) (.slice none 0 0)) (fun x _ _=>(intOf x).toNat)
 case atStart=>exact⟨0,Nat.zero_le _,by rw[pw_zero,Nat.div_one],Own.row_nil _ _ _,qg,Bx.new _ _ _ _⟩
 case round =>
  obtain⟨k,hk,rfl,hO,hG,hB⟩:=hrel;obtain⟨X,hX⟩:∃ X,X=M/pw k:=⟨_,rfl⟩;have HXM:=qh hX;have HXle:=qh (show X<=9223372036854775808 by rw[hX];exact zm (Nat.div_le_self _ _) HM.o);have HP:=qh (pw_div_pos (M:=M) (k:=k));have HD:=qh (pw_div_succ M k);rw[<- hX] at HP HD ⊢;have HO:=qh hO;have HG:=qh hG;have HB:=qh hB;have HK:=qh hk;clear hO hG hB hX hk;by_cases h0:0<X
  ·have hk2:k<lenB M:=HP.o.1 h0
   have t1:(X:Int).tmod 1000000000=dgi M k:=by
    rw[Int.tmod_eq_emod_of_nonneg (by omega)]
    have hdg:X%1000000000=dg M k:=by rw[HXM.o];rfl
    show _=((dg M k:Nat):Int);omega
   obtain⟨Y,hY⟩:∃ Y,Y=M/pw (k+1):=⟨_,rfl⟩;rw[<- hY] at HD;have HY:=qh hY;clear hY
   have t2:(X:Int).tdiv 1000000000=(Y:Int):=by rw[Int.tdiv_eq_ediv_of_nonneg (by omega),<- HD.o];omega
   have hdb:0<=dgi M k/\dgi M k<=999999999:=by have:=dgi_Dig M (k+1) k (by omega);omega
   have u1:=IntWalk.u32_in (dgi M k) (by omega);have u2:=IntWalk.u64_in (dgi M k) (by omega);have u3:=IntWalk.u64_in (Y:Int) (by have h9:=HD.o;have:=HXle.o;omega)
   have hx0:0<(X:Int):=by omega
   have hL3:=HLN.o;have HLE:=qh (show Y<X by have h9:=HD.o;omega);go_wp2_with (first | (at_builtin;refine wpList_append_own _ rfl _ _ 28 rfl (w.heap.size+1) 128 i0 (.int .u32 0) 1 4 Tryz.underlying28 hi hz0 hz1 hz2 rfl (by decide) _ _ _ rfl (HO.o.alloc _) ⟨wr.heap.size,0,none⟩ 1 1 [.int .u32 (dgi M k)] rfl rfl ?c1 ?c2 ?c3 ?c4 ?c5 ?_))
   case c1 =>
    intro t u ht
    match t,ht with
    | 0,ht=>simp at ht;subst ht;simp[Addr.add]
   case c2=>intro u hu;simp at hu;subst hu;rfl
   case c3=>unfold maxLen;omega
   case c4=>omega
   case c5=>have:=HB.o.lt;simp;omega
   intro v' w1 hown' hgrow _;have O2:=qh (show w1.ownsRow (w.heap.size+1) 128 1 v' (k+1) (ucs (dgi M) (k+1)) by rw[ucs_succ];exact hown');have G2:=qh ((HG.o.alloc HG.o.size _).grown hgrow (by have:=HG.o.size;simp;omega) (fun g hg=>Nat.le_of_succ_le (ownBlock_ge HO.o hg)));have B2:=qh ((HB.o.alloc (.cells #[.int .u32 (dgi M k)] 128)).of (hgrow.block w.heap.size (HB.o.alloc _).lt (fun e=>by have:=ownBlock_ge HO.o e.symm;omega)));clear hown' hgrow;go_wp2_with fail
   go_roundw
   case rel=>exact⟨k+1,by omega,by rw[HY.o],O2.o,G2.o,B2.o⟩
   case measure=>simp[intOf];have h9:=HLE.o;omega
  ·obtain rfl:X=0:=by omega
   obtain rfl:k=lenB M:=by have:=HK.o;have:=mt HP.o.2 (by omega);omega
   obtain⟨a,cap,rfl,hOw,hcap⟩:=Own.of_row HO.o (fun i hi=>by have:=dgi_Dig M (lenB M) i hi;omega);have HOW:=qh hOw;have HCP:=qh hcap;clear h0 hOw hcap;have hL3:=HLN.o;have CUT:=qh (cut_any false a (lenB M) cap (dgi M) wr HOW.o.rd (dgi_Dig _ _) (by omega) HOW.o.le HCP.o);rw[sumB_dgi,Int.toNat_natCast,pos_canon M] at CUT;go_wp2_with fail
   refine CUT.o.mono ?_;rintro e w2 ⟨rfl,hb2⟩;have B3:=HB.o.bl hb2;have HB3:=qh B3;have HO3:=qh (HOW.o.below hb2);have HG3:=qh (HG.o.trans (hb2.mono HG.o.size));obtain⟨b30,b31,b32,b33⟩:=B3.all;clear B3 hb2 CUT;go_wp2_with fail
   refine bodyPost_ret (results_cell rfl _ _ _ _ _ _ _ rfl (HB3.o.set _ _) Tryz.underlying30 rfl (by kernel_rfl)) rfl ⟨a,by first | (rw[show((M:Int)).natAbs=M by omega];done) | (rw[show((M:Int)).natAbs=M by omega,decide_eq_true (show -(M:Int)<0 by omega)]),?_,?_,?_⟩
   ·rw[show((M:Int)).natAbs=M by omega];exact(((HO3.o.cut zj (fun i _=>rfl)).oz).oz).mono (by omega)
   ·rw[show((M:Int)).natAbs=M by omega];intro h;have h1:=HO3.o.le;have h2:=HCP.o h;omega
   ·exact(HG3.o.sc).sc
theorem of64_neg (M:Nat) (w:World) (h0:0<M) (h:M<=9223372036854775808):Calls Tryz.prog 106 #[.int .i64 (-(M:Int))] w (ResN w (-(M:Int))):=by
 obtain⟨i0,hi,hz0,hz1,hz2⟩:=info_parts info32;obtain⟨U,e1,e2⟩:=u64_of_neg h0 h
 have hlt:-(M:Int)<0:=by omega
 have H0:=qh h0
 have hp0:(0:Int)<(M:Int):=by omega
 have HM:=qh (show M<=9223372036854775808 by omega);clear h;go_enter Tryz.func106,Tryz.ntmps106;have HLN:=qh (len3 HM.o);go_wp2_with fail
 go_loopw [3,4] (fun x v wr=>∃ k:Nat,k<=lenB M/\x=.int .u64 ((M/pw k:Nat):Int)/\wr.ownsRow (w.heap.size+1) 128 1 v k (ucs (dgi M) k)/\Below w.heap.size w wr/\Bx wr w.heap.size 30 (.bool false) (.slice none 0 0)) (fun x _ _=>(intOf x).toNat)
 case atStart=>exact⟨0,Nat.zero_le _,by rw[pw_zero,Nat.div_one],Own.row_nil _ _ _,qg,Bx.new _ _ _ _⟩
 case round =>
  obtain⟨k,hk,rfl,hO,hG,hB⟩:=hrel;obtain⟨X,hX⟩:∃ X,X=M/pw k:=⟨_,rfl⟩;have HXM:=qh hX;have HXle:=qh (show X<=9223372036854775808 by rw[hX];exact zm (Nat.div_le_self _ _) HM.o);have HP:=qh (pw_div_pos (M:=M) (k:=k));have HD:=qh (pw_div_succ M k);rw[<- hX] at HP HD ⊢;have HO:=qh hO;have HG:=qh hG;have HB:=qh hB;have HK:=qh hk;clear hO hG hB hX hk;by_cases h0:0<X
  ·have hk2:k<lenB M:=HP.o.1 h0
   have t1:(X:Int).tmod 1000000000=dgi M k:=by
    rw[Int.tmod_eq_emod_of_nonneg (by omega)]
    have hdg:X%1000000000=dg M k:=by rw[HXM.o];rfl
    show _=((dg M k:Nat):Int);omega
   obtain⟨Y,hY⟩:∃ Y,Y=M/pw (k+1):=⟨_,rfl⟩;rw[<- hY] at HD;have HY:=qh hY;clear hY
   have t2:(X:Int).tdiv 1000000000=(Y:Int):=by rw[Int.tdiv_eq_ediv_of_nonneg (by omega),<- HD.o];omega
   have hdb:0<=dgi M k/\dgi M k<=999999999:=by have:=dgi_Dig M (k+1) k (by omega);omega
   have u1:=IntWalk.u32_in (dgi M k) (by omega);have u2:=IntWalk.u64_in (dgi M k) (by omega);have u3:=IntWalk.u64_in (Y:Int) (by have h9:=HD.o;have:=HXle.o;omega)
   have hx0:0<(X:Int):=by omega
   have hL3:=HLN.o;have HLE:=qh (show Y<X by have h9:=HD.o;omega);go_wp2_with (first | (at_builtin;refine wpList_append_own _ rfl _ _ 28 rfl (w.heap.size+1) 128 i0 (.int .u32 0) 1 4 Tryz.underlying28 hi hz0 hz1 hz2 rfl (by decide) _ _ _ rfl (HO.o.alloc _) ⟨wr.heap.size,0,none⟩ 1 1 [.int .u32 (dgi M k)] rfl rfl ?c1 ?c2 ?c3 ?c4 ?c5 ?_))
   case c1 =>
    intro t u ht
    match t,ht with
    | 0,ht=>simp at ht;subst ht;simp[Addr.add]
   case c2=>intro u hu;simp at hu;subst hu;rfl
   case c3=>unfold maxLen;omega
   case c4=>omega
   case c5=>have:=HB.o.lt;simp;omega
   intro v' w1 hown' hgrow _;have O2:=qh (show w1.ownsRow (w.heap.size+1) 128 1 v' (k+1) (ucs (dgi M) (k+1)) by rw[ucs_succ];exact hown');have G2:=qh ((HG.o.alloc HG.o.size _).grown hgrow (by have:=HG.o.size;simp;omega) (fun g hg=>Nat.le_of_succ_le (ownBlock_ge HO.o hg)));have B2:=qh ((HB.o.alloc (.cells #[.int .u32 (dgi M k)] 128)).of (hgrow.block w.heap.size (HB.o.alloc _).lt (fun e=>by have:=ownBlock_ge HO.o e.symm;omega)));clear hown' hgrow;go_wp2_with fail
   go_roundw
   case rel=>exact⟨k+1,by omega,by rw[HY.o],O2.o,G2.o,B2.o⟩
   case measure=>simp[intOf];have h9:=HLE.o;omega
  ·obtain rfl:X=0:=by omega
   obtain rfl:k=lenB M:=by have:=HK.o;have:=mt HP.o.2 (by omega);omega
   obtain⟨a,cap,rfl,hOw,hcap⟩:=Own.of_row HO.o (fun i hi=>by have:=dgi_Dig M (lenB M) i hi;omega);have HOW:=qh hOw;have HCP:=qh hcap;clear h0 hOw hcap;have hL3:=HLN.o;have CUT:=qh (cut_any true a (lenB M) cap (dgi M) wr HOW.o.rd (dgi_Dig _ _) (by omega) HOW.o.le HCP.o);rw[sumB_dgi,Int.toNat_natCast,neg_canon M H0.o] at CUT;go_wp2_with fail
   refine CUT.o.mono ?_;rintro e w2 ⟨rfl,hb2⟩;have B3:=HB.o.bl hb2;have HB3:=qh B3;have HO3:=qh (HOW.o.below hb2);have HG3:=qh (HG.o.trans (hb2.mono HG.o.size));obtain⟨b30,b31,b32,b33⟩:=B3.all;clear B3 hb2 CUT;go_wp2_with fail
   refine bodyPost_ret (results_cell rfl _ _ _ _ _ _ _ rfl (HB3.o.set _ _) Tryz.underlying30 rfl (by kernel_rfl)) rfl ⟨a,by first | (rw[show(-(M:Int)).natAbs=M by omega];done) | (rw[show(-(M:Int)).natAbs=M by omega,decide_eq_true (show -(M:Int)<0 by omega)]),?_,?_,?_⟩
   ·rw[show(-(M:Int)).natAbs=M by omega];exact(((HO3.o.cut zj (fun i _=>rfl)).oz).oz).mono (by omega)
   ·rw[show(-(M:Int)).natAbs=M by omega];intro h;have h1:=HO3.o.le;have h2:=HCP.o h;omega
   ·exact(HG3.o.sc).sc
theorem rof64_pos (M:Nat) (w:World) (h:M<=9223372036854775807):Calls Tryz.prog 153 #[.int .i64 (M:Int)] w (ResF w (M:Int)):=by
 obtain⟨i0,hi,hz0,hz1,hz2⟩:=info_parts info32;have e1:=IntWalk.u64_in (M:Int) (by omega)
 have hlt:¬(M:Int)<0:=by omega
 have hge:(0:Int)<=(M:Int):=by omega
 have HM:=qh (show M<=9223372036854775808 by omega);clear h;go_enter Tryz.func153,Tryz.ntmps153;have HLN:=qh (len3 HM.o);go_wp2_with fail
 go_loopw [4,5] (fun x v wr=>∃ k:Nat,k<=lenB M/\x=.int .u64 ((M/pw k:Nat):Int)/\wr.ownsRow (w.heap.size+1) 128 1 v k (ucs (dgi M) k)/\Below w.heap.size w wr/\Bx wr w.heap.size 30 (.bool false) (.slice none 0 0)) (fun x _ _=>(intOf x).toNat)
 case atStart=>exact⟨0,Nat.zero_le _,by rw[pw_zero,Nat.div_one],Own.row_nil _ _ _,qg,Bx.new _ _ _ _⟩
 case round =>
  obtain⟨k,hk,rfl,hO,hG,hB⟩:=hrel;obtain⟨X,hX⟩:∃ X,X=M/pw k:=⟨_,rfl⟩;have HXM:=qh hX;have HXle:=qh (show X<=9223372036854775808 by rw[hX];exact zm (Nat.div_le_self _ _) HM.o);have HP:=qh (pw_div_pos (M:=M) (k:=k));have HD:=qh (pw_div_succ M k);rw[<- hX] at HP HD ⊢;have HO:=qh hO;have HG:=qh hG;have HB:=qh hB;have HK:=qh hk;clear hO hG hB hX hk;by_cases h0:0<X
  ·have hk2:k<lenB M:=HP.o.1 h0
   have t1:(X:Int).tmod 1000000000=dgi M k:=by
    rw[Int.tmod_eq_emod_of_nonneg (by omega)]
    have hdg:X%1000000000=dg M k:=by rw[HXM.o];rfl
    show _=((dg M k:Nat):Int);omega
   obtain⟨Y,hY⟩:∃ Y,Y=M/pw (k+1):=⟨_,rfl⟩;rw[<- hY] at HD;have HY:=qh hY;clear hY
   have t2:(X:Int).tdiv 1000000000=(Y:Int):=by rw[Int.tdiv_eq_ediv_of_nonneg (by omega),<- HD.o];omega
   have hdb:0<=dgi M k/\dgi M k<=999999999:=by have:=dgi_Dig M (k+1) k (by omega);omega
   have u1:=IntWalk.u32_in (dgi M k) (by omega);have u2:=IntWalk.u64_in (dgi M k) (by omega);have u3:=IntWalk.u64_in (Y:Int) (by have h9:=HD.o;have:=HXle.o;omega)
   have hx0:0<(X:Int):=by omega
   have hL3:=HLN.o;have HLE:=qh (show Y<X by have h9:=HD.o;omega);go_wp2_with (first | (at_builtin;refine wpList_append_own _ rfl _ _ 28 rfl (w.heap.size+1) 128 i0 (.int .u32 0) 1 4 Tryz.underlying28 hi hz0 hz1 hz2 rfl (by decide) _ _ _ rfl (HO.o.alloc _) ⟨wr.heap.size,0,none⟩ 1 1 [.int .u32 (dgi M k)] rfl rfl ?c1 ?c2 ?c3 ?c4 ?c5 ?_))
   case c1 =>
    intro t u ht
    match t,ht with
    | 0,ht=>simp at ht;subst ht;simp[Addr.add]
   case c2=>intro u hu;simp at hu;subst hu;rfl
   case c3=>unfold maxLen;omega
   case c4=>omega
   case c5=>have:=HB.o.lt;simp;omega
   intro v' w1 hown' hgrow _;have O2:=qh (show w1.ownsRow (w.heap.size+1) 128 1 v' (k+1) (ucs (dgi M) (k+1)) by rw[ucs_succ];exact hown');have G2:=qh ((HG.o.alloc HG.o.size _).grown hgrow (by have:=HG.o.size;simp;omega) (fun g hg=>Nat.le_of_succ_le (ownBlock_ge HO.o hg)));have B2:=qh ((HB.o.alloc (.cells #[.int .u32 (dgi M k)] 128)).of (hgrow.block w.heap.size (HB.o.alloc _).lt (fun e=>by have:=ownBlock_ge HO.o e.symm;omega)));clear hown' hgrow;go_wp2_with fail
   go_roundw
   case rel=>exact⟨k+1,by omega,by rw[HY.o],O2.o,G2.o,B2.o⟩
   case measure=>simp[intOf];have h9:=HLE.o;omega
  ·obtain rfl:X=0:=by omega
   obtain rfl:k=lenB M:=by have:=HK.o;have:=mt HP.o.2 (by omega);omega
   obtain⟨a,cap,rfl,hOw,hcap⟩:=Own.of_row HO.o (fun i hi=>by have:=dgi_Dig M (lenB M) i hi;omega);have HOW:=qh hOw;have HCP:=qh hcap;clear h0 hOw hcap;have hL3:=HLN.o;have NUM:=qh (num_own false (decide ((M:Int)<0)) a (lenB M) cap M _ (dgi M) wr HOW.o (dgi_Dig _ _) (by omega) (sumB_dgi M) (pos_canon M));go_wp2_with fail
   refine NUM.o.mono ?_;rintro e w2 ⟨rfl,hb2⟩;have B3:=HB.o.bl hb2;have HB3:=qh B3;have HO3:=qh (HOW.o.below hb2);have HG3:=qh (HG.o.trans (hb2.mono HG.o.size));obtain⟨b30,b31,b32,b33⟩:=B3.all;clear B3 hb2 NUM;go_wp2_with fail
   have hna:(((M:Int):Int)).natAbs=M:=by omega
   rw[<- hna] at HO3;refine bodyPost_ret (results_cell rfl _ _ _ _ _ _ _ rfl (HB3.o.set _ _) Tryz.underlying30 rfl (by kernel_rfl)) rfl ⟨a,cap,by first | (rw[hna];done) | (rw[hna,decide_eq_true (show -(M:Int)<0 by omega)]),?_,?_⟩
   ·exact((HO3.o.oz).oz).mono (by omega)
   ·exact(HG3.o.sc).sc
theorem rof64_neg (M:Nat) (w:World) (h0:0<M) (h:M<=9223372036854775808):Calls Tryz.prog 153 #[.int .i64 (-(M:Int))] w (ResF w (-(M:Int))):=by
 obtain⟨i0,hi,hz0,hz1,hz2⟩:=info_parts info32;obtain⟨U,e1,e2⟩:=u64_of_neg h0 h
 have hlt:-(M:Int)<0:=by omega
 have H0:=qh h0
 have hp0:(0:Int)<(M:Int):=by omega
 have HM:=qh (show M<=9223372036854775808 by omega);clear h;go_enter Tryz.func153,Tryz.ntmps153;have HLN:=qh (len3 HM.o);go_wp2_with fail
 go_loopw [4,5] (fun x v wr=>∃ k:Nat,k<=lenB M/\x=.int .u64 ((M/pw k:Nat):Int)/\wr.ownsRow (w.heap.size+1) 128 1 v k (ucs (dgi M) k)/\Below w.heap.size w wr/\Bx wr w.heap.size 30 (.bool false) (.slice none 0 0)) (fun x _ _=>(intOf x).toNat)
 case atStart=>exact⟨0,Nat.zero_le _,by rw[pw_zero,Nat.div_one],Own.row_nil _ _ _,qg,Bx.new _ _ _ _⟩
 case round =>
  obtain⟨k,hk,rfl,hO,hG,hB⟩:=hrel;obtain⟨X,hX⟩:∃ X,X=M/pw k:=⟨_,rfl⟩;have HXM:=qh hX;have HXle:=qh (show X<=9223372036854775808 by rw[hX];exact zm (Nat.div_le_self _ _) HM.o);have HP:=qh (pw_div_pos (M:=M) (k:=k));have HD:=qh (pw_div_succ M k);rw[<- hX] at HP HD ⊢;have HO:=qh hO;have HG:=qh hG;have HB:=qh hB;have HK:=qh hk;clear hO hG hB hX hk;by_cases h0:0<X
  ·have hk2:k<lenB M:=HP.o.1 h0
   have t1:(X:Int).tmod 1000000000=dgi M k:=by
    rw[Int.tmod_eq_emod_of_nonneg (by omega)]
    have hdg:X%1000000000=dg M k:=by rw[HXM.o];rfl
    show _=((dg M k:Nat):Int);omega
   obtain⟨Y,hY⟩:∃ Y,Y=M/pw (k+1):=⟨_,rfl⟩;rw[<- hY] at HD;have HY:=qh hY;clear hY
   have t2:(X:Int).tdiv 1000000000=(Y:Int):=by rw[Int.tdiv_eq_ediv_of_nonneg (by omega),<- HD.o];omega
   have hdb:0<=dgi M k/\dgi M k<=999999999:=by have:=dgi_Dig M (k+1) k (by omega);omega
   have u1:=IntWalk.u32_in (dgi M k) (by omega);have u2:=IntWalk.u64_in (dgi M k) (by omega);have u3:=IntWalk.u64_in (Y:Int) (by have h9:=HD.o;have:=HXle.o;omega)
   have hx0:0<(X:Int):=by omega
   have hL3:=HLN.o;have HLE:=qh (show Y<X by have h9:=HD.o;omega);go_wp2_with (first | (at_builtin;refine wpList_append_own _ rfl _ _ 28 rfl (w.heap.size+1) 128 i0 (.int .u32 0) 1 4 Tryz.underlying28 hi hz0 hz1 hz2 rfl (by decide) _ _ _ rfl (HO.o.alloc _) ⟨wr.heap.size,0,none⟩ 1 1 [.int .u32 (dgi M k)] rfl rfl ?c1 ?c2 ?c3 ?c4 ?c5 ?_))
   case c1 =>
    intro t u ht
    match t,ht with
    | 0,ht=>simp at ht;subst ht;simp[Addr.add]
   case c2=>intro u hu;simp at hu;subst hu;rfl
   case c3=>unfold maxLen;omega
   case c4=>omega
   case c5=>have:=HB.o.lt;simp;omega
   intro v' w1 hown' hgrow _;have O2:=qh (show w1.ownsRow (w.heap.size+1) 128 1 v' (k+1) (ucs (dgi M) (k+1)) by rw[ucs_succ];exact hown');have G2:=qh ((HG.o.alloc HG.o.size _).grown hgrow (by have:=HG.o.size;simp;omega) (fun g hg=>Nat.le_of_succ_le (ownBlock_ge HO.o hg)));have B2:=qh ((HB.o.alloc (.cells #[.int .u32 (dgi M k)] 128)).of (hgrow.block w.heap.size (HB.o.alloc _).lt (fun e=>by have:=ownBlock_ge HO.o e.symm;omega)));clear hown' hgrow;go_wp2_with fail
   go_roundw
   case rel=>exact⟨k+1,by omega,by rw[HY.o],O2.o,G2.o,B2.o⟩
   case measure=>simp[intOf];have h9:=HLE.o;omega
  ·obtain rfl:X=0:=by omega
   obtain rfl:k=lenB M:=by have:=HK.o;have:=mt HP.o.2 (by omega);omega
   obtain⟨a,cap,rfl,hOw,hcap⟩:=Own.of_row HO.o (fun i hi=>by have:=dgi_Dig M (lenB M) i hi;omega);have HOW:=qh hOw;have HCP:=qh hcap;clear h0 hOw hcap;have hL3:=HLN.o;have NUM:=qh (num_own true (decide ((-(M:Int))<0)) a (lenB M) cap M _ (dgi M) wr HOW.o (dgi_Dig _ _) (by omega) (sumB_dgi M) (neg_canon M H0.o));go_wp2_with fail
   refine NUM.o.mono ?_;rintro e w2 ⟨rfl,hb2⟩;have B3:=HB.o.bl hb2;have HB3:=qh B3;have HO3:=qh (HOW.o.below hb2);have HG3:=qh (HG.o.trans (hb2.mono HG.o.size));obtain⟨b30,b31,b32,b33⟩:=B3.all;clear B3 hb2 NUM;go_wp2_with fail
   have hna:(((-(M:Int)):Int)).natAbs=M:=by omega
   rw[<- hna] at HO3;refine bodyPost_ret (results_cell rfl _ _ _ _ _ _ _ rfl (HB3.o.set _ _) Tryz.underlying30 rfl (by kernel_rfl)) rfl ⟨a,cap,by first | (rw[hna];done) | (rw[hna,decide_eq_true (show -(M:Int)<0 by omega)]),?_,?_⟩
   ·exact((HO3.o.oz).oz).mono (by omega)
   ·exact(HG3.o.sc).sc
theorem of64_any (n:Int) (w:World) (h1:-9223372036854775808<=n) (h2:n<=9223372036854775807):Calls Tryz.prog 106 #[.int .i64 n] w (ResN w n):=by
 rcases Int.lt_or_le n 0 with h | h
 ·obtain⟨M,rfl⟩:∃ M:Nat,n = -(M:Int):=⟨n.natAbs,by omega⟩;exact of64_neg M w (by omega) (by omega)
 ·obtain⟨M,rfl⟩:∃ M:Nat,n=(M:Int):=⟨n.natAbs,by omega⟩;exact of64_pos M w (by omega)
theorem rof64_any (n:Int) (w:World) (h1:-9223372036854775808<=n) (h2:n<=9223372036854775807):Calls Tryz.prog 153 #[.int .i64 n] w (ResF w n):=by
 rcases Int.lt_or_le n 0 with h | h
 ·obtain⟨M,rfl⟩:∃ M:Nat,n = -(M:Int):=⟨n.natAbs,by omega⟩;exact rof64_neg M w (by omega) (by omega)
 ·obtain⟨M,rfl⟩:∃ M:Nat,n=(M:Int):=⟨n.natAbs,by omega⟩;exact rof64_pos M w (by omega)
theorem rneg_any (s1:Bool) (a1:Option Addr) (n1 c1:Nat) (o1:Nat->Int) (w:World) (h1:Rd w a1 n1 o1) (hn1:n1<=100000000) (hc1:n1<=c1) :
  Calls Tryz.prog 167 #[numV s1 a1 n1 c1] w (ResF w (- valN s1 n1 o1)):=by
 obtain⟨x1,d1,r1,l1,m1,O1⟩:=fit_any s1 a1 n1 c1 o1 w h1 (by omega) hc1
 generalize valN s1 n1 o1=z1 at r1 l1 m1 O1 ⊢
 have HO1:=qh O1;clear O1;have HR:=qh r1;clear h1 r1;have HB1:=qh ((Bx.new w 30 (.bool s1) (.slice a1 n1 c1)).alloc (.cells #[.bool false,.slice none 0 0] 30));have HB2:=qh (Bx.new2 w (.cells #[.bool s1,.slice a1 n1 c1] 30) 30 (.bool false) (.slice none 0 0));obtain⟨sB,hsB⟩:∃ sB,sB=decide (-z1<0):=⟨_,rfl⟩;have HSB:=qh (And.intro ((neg_sign z1).trans hsB.symm) hsB);clear hsB;go_enter Tryz.func167,Tryz.ntmps167;go_wp2_with fail
 refine(HO1.o _ ?_).mono ?_
 ·exact qg
 rintro e w1 ⟨rfl,hb1⟩;have B1:=HB1.o.bl hb1;have B2:=HB2.o.bl hb1;have G1:=qh ((zk.alloc (by go_size) _ |>.alloc (by go_size) _).trans (hb1.mono (by go_size)):Below w.heap.size w w1);have K1:=qh B1;have K2:=qh B2;clear HB1 HB2 B1 B2 hb1;go_wp2_with fail
 refine(twin_any (decide (z1<0)) x1 (lenB z1.natAbs) d1 (dgi z1.natAbs) w1 (HR.o.below G1.o) (by omega)).mono ?_;rintro e w2 ⟨a,cap,rfl,hO,-,hb2⟩;have B1:=K1.o.bl hb2;have B2:=K2.o.bl hb2;have G2:=qh (G1.o.trans (hb2.mono G1.o.size));have C1:=qh B1;have C2:=qh B2;have HO:=qh (hO.mono G1.o.size);have hlt:=K2.o.lt;have HOw:=qh hO;obtain⟨b10,b11,b12,b13⟩:=B1.all;clear K1 K2 B1 B2 hb2 G1 hO
 go_upto_region 2 with (fail)
 obtain⟨W,hW⟩:∃ W,W=((w2.setCell ⟨w.heap.size,0,none⟩ (.bool (decide (z1<0)))).setCell ⟨w.heap.size,1,none⟩ (.slice a (lenB z1.natAbs) cap)):=⟨_,rfl⟩;have B1:=C1.o.set (.bool (decide (z1<0))) (.slice a (lenB z1.natAbs) cap);have B2:=(C2.o.other (a:=⟨w.heap.size,0,none⟩) (by dsimp only;omega) (.bool (decide (z1<0)))).other (a:=⟨w.heap.size,1,none⟩) (by dsimp only;omega) (.slice a (lenB z1.natAbs) cap);have G3:=(G2.o.setCell (p:=⟨w.heap.size,0,none⟩) (by simp) (.bool (decide (z1<0)))).setCell (p:=⟨w.heap.size,1,none⟩) (by simp) (.slice a (lenB z1.natAbs) cap);have O3:=(HOw.o.other (p:=⟨w.heap.size,0,none⟩) (by dsimp only;omega) (.bool (decide (z1<0)))).other (p:=⟨w.heap.size,1,none⟩) (by dsimp only;omega) (.slice a (lenB z1.natAbs) cap);rw[<- hW] at B1 B2 G3 O3;rw[show((w2.setCell ⟨w.heap.size,0,none⟩ (.bool (decide (z1<0)))).setCell ⟨w.heap.size,1,none⟩ (.slice a (lenB z1.natAbs) cap))=W from hW.symm];have HB2:=qh B2;have HG:=qh G3;have HN:=qh (num_own (!decide (z1<0)) sB a (lenB z1.natAbs) cap z1.natAbs _ (dgi z1.natAbs) W O3 (dgi_Dig _ _) (by omega) (sumB_dgi _) HSB.o.1);have HO3:=qh O3;clear b10 b11 b12 b13 C1 C2 hW G2 HO1 HO HOw O3 G3;obtain⟨b10,b11,b12,b13⟩:=B1.all;clear B1 B2;go_wp2_with fail
 refine HN.o.mono ?_;rintro e w3 ⟨rfl,hb3⟩;have B2:=HB2.o.bl hb3;have HB5:=qh B2;obtain⟨b30,b31,b32,b33⟩:=B2.all;have HG5:=qh (HG.o.trans (hb3.mono HG.o.size));have HO5:=qh (HO3.o.below hb3);clear HO3 HG HB2 HN B2 hb3 b10 b11 b12 b13;go_wp2_with fail
 unfold ResF;rw[Int.natAbs_neg,<- HSB.o.2];refine bodyPost_ret (results_cell rfl _ _ _ _ _ _ _ rfl (HB5.o.set _ _) Tryz.underlying30 rfl (by kernel_rfl)) rfl ⟨a,cap,rfl,?_,?_⟩
 ·exact((HO5.o.oz).oz).mono (by omega)
 ·exact(HG5.o.sc).sc
theorem rsub_any (s1:Bool) (a1:Option Addr) (n1 c1:Nat) (o1:Nat->Int) (s2:Bool) (a2:Option Addr) (n2 c2:Nat) (o2:Nat->Int) (w:World)
  (h1:Rd w a1 n1 o1) (hn1:n1<=100000000) (hc1:n1<=c1) (h2:Rd w a2 n2 o2) (hn2:n2<=100000000) (hc2:n2<=c2) :
  Calls Tryz.prog 248 #[numV s1 a1 n1 c1,numV s2 a2 n2 c2] w (ResF w (valN s1 n1 o1-valN s2 n2 o2)):=by
 have hl2:lenB (valN s2 n2 o2).natAbs<=n2:=by
  obtain⟨_,_,_,l2,_⟩:=fit_any s2 a2 n2 c2 o2 w h2 (by omega) hc2;exact l2
 have NEG:=qh (fun (w':World) (hb:Below w.heap.size w w')=>rneg_any s2 a2 n2 c2 o2 w' (h2.below hb) hn2 hc2);obtain⟨z1,hz1⟩:∃ z1,z1=valN s1 n1 o1:=⟨_,rfl⟩;obtain⟨z2,hz2⟩:∃ z2,z2=valN s2 n2 o2:=⟨_,rfl⟩;rw[<- hz2] at NEG hl2;rw[<- hz1,<- hz2];obtain⟨L2,hL2⟩:∃ L2,L2=lenB z2.natAbs:=⟨_,rfl⟩;obtain⟨sB,hsB⟩:∃ sB,sB=decide (-z2<0):=⟨_,rfl⟩;obtain⟨sC,hsC⟩:∃ sC,sC=decide (z1-z2<0):=⟨_,rfl⟩;obtain⟨N,hN⟩:∃ N,N=(z1-z2).natAbs:=⟨_,rfl⟩;have ADD:=qh (fun (w':World) (hb:Below w.heap.size w w') (x:Option Addr) (d:Nat) (hr:Rd w' x (lenB z2.natAbs) (dgi z2.natAbs)) (hd:lenB z2.natAbs<=d)=>radd_any s1 a1 n1 c1 o1 sB x (lenB z2.natAbs) d (dgi z2.natAbs) w' (h1.below hb) hn1 hc1 hr (by omega) hd);rw[canon_neg z2 sB hsB,<- hz1,<- Int.sub_eq_add_neg] at ADD;unfold ResF at NEG ADD;rw[Int.natAbs_neg] at NEG;rw[<- hsB] at NEG;rw[<- hsC,<- hN] at ADD;have HE:=qh (And.intro hN hsC);clear hz1 hz2 hsB hsC hN h1 h2 hL2;have HB1:=qh (((Bx.new w 30 (.bool s1) (.slice a1 n1 c1)).alloc (.cells #[.bool s2,.slice a2 n2 c2] 30)).alloc (.cells #[.bool false,.slice none 0 0] 30));have HB2:=qh ((Bx.new2 w (.cells #[.bool s1,.slice a1 n1 c1] 30) 30 (.bool s2) (.slice a2 n2 c2)).alloc (.cells #[.bool false,.slice none 0 0] 30));have HB3:=qh (Bx.new3 w (.cells #[.bool s1,.slice a1 n1 c1] 30) (.cells #[.bool s2,.slice a2 n2 c2] 30) 30 (.bool false) (.slice none 0 0));have G:=qh ((zk.alloc (by go_size) _ |>.alloc (by go_size) _ |>.alloc (by go_size) _):Below w.heap.size w (((w.alloc (.cells #[.bool s1,.slice a1 n1 c1] 30)).alloc (.cells #[.bool s2,.slice a2 n2 c2] 30)).alloc (.cells #[.bool false,.slice none 0 0] 30)))
 go_enter Tryz.func248,Tryz.ntmps248
 go_upto_region 1 with (fail)
 obtain⟨W,hW⟩:∃ W,W=(((w.alloc (.cells #[.bool s1,.slice a1 n1 c1] 30)).alloc (.cells #[.bool s2,.slice a2 n2 c2] 30)).alloc (.cells #[.bool false,.slice none 0 0] 30)):=⟨_,rfl⟩;rw[<- hW] at HB1 HB2 HB3 G;rw[show(((w.alloc (.cells #[.bool s1,.slice a1 n1 c1] 30)).alloc (.cells #[.bool s2,.slice a2 n2 c2] 30)).alloc (.cells #[.bool false,.slice none 0 0] 30))=W from hW.symm];have HS1:=qh (fun (w':World) (hb:Below W.heap.size W w')=>And.intro (HB1.o.bl hb).c0 (HB1.o.bl hb).c1);have HS2:=qh (fun (w':World) (hb:Below W.heap.size W w')=>And.intro (HB2.o.bl hb).c0 (HB2.o.bl hb).c1);have HG:=G;clear hW G
 refine wp_region_fresh 4 (spOf [(2,Sp.made (fun x:Option Addr × Nat=>numV sB x.1 (lenB z2.natAbs) x.2) (fun x w'=>Own 128 w' W.heap.size x.1 (lenB z2.natAbs) x.2 (dgi z2.natAbs))),
   (3,Sp.made (fun x:Option Addr × Nat=>numV sC x.1 (lenB N) x.2) (fun x w'=>Own 128 w' W.heap.size x.1 (lenB N) x.2 (dgi N)))])
  (fun w'=>Below W.heap.size W w') (by kernel_rfl) (by kernel_rfl)
  (spOf_cons (Sp.made_keeps fun x w w' h hb=>h.below hb) (spOf_cons (Sp.made_keeps fun x w w' h hb=>h.below hb) spOf_nil)) (fun _ _ h hb=>h.trans (hb.mono h.size)) (zk.drew) ?_
 simp only[zx,zy,zv,zw]
 iterate 2
  (refine wpF_reads rfl rfl ?_ (fun w' hw'=>?_) ?_;rotate_left;· (have hb':=Has.world hw';(have hs:=HS1.o _ hb';have hs:=HS2.o _ hb');clear hw';go_simp;try rfl))
 (refine wpF_spec rfl rfl (fun w' hw'=>?_) ?_;· (have hb':=Has.world hw';go_simp;((refine(NEG.o w' (HG.o.trans (hb'.mono HG.o.size))).mono ?_;rintro e w'' ⟨a,cap,rfl,q,hb⟩;exact⟨_,rfl,⟨⟨a,cap,rfl⟩,⟨a,cap,rfl,q.mono hb'.size⟩⟩,hb⟩))))
 rintro _ ⟨x,rfl⟩
 (refine wpF_spec rfl rfl (fun w' hw'=>?_) ?_;· (have hb':=Has.world hw';go_simp;((have h7:=own_numc (T:=128) (x:=x) (b:=W.heap.size) (s:=sB) (L:=lenB z2.natAbs) (o:=dgi z2.natAbs) (hw'.fact 2 (by kernel_rfl));refine(ADD.o w' (HG.o.trans (hb'.mono HG.o.size)) x.1 x.2 h7.rd h7.le).mono ?_;rintro e w'' ⟨a,cap,rfl,q,hb⟩;exact⟨_,rfl,⟨⟨a,cap,rfl⟩,⟨a,cap,rfl,q.mono hb'.size⟩⟩,hb⟩))))
 rintro _ ⟨y,rfl⟩;refine wpF_nil (fun w5 hb5 hF5=>?_);have OA:=own_numc (T:=128) (b:=W.heap.size) (s:=sC) (L:=lenB N) (o:=dgi N) (x:=y) (hF5 3);have HO:=qh OA;have B3:=HB3.o.bl hb5;have HB5:=qh B3;obtain⟨b30,b31,b32,b33⟩:=B3.all;have HG5:=qh (HG.o.trans (hb5.mono HG.o.size));have hz4:=HB3.o.lt;have hz5:=HG.o.size;clear hF5 OA B3 hb5 HS1 HS2;go_wp2_with fail
 unfold ResF;rw[<- HE.o.1,<- HE.o.2];refine bodyPost_ret (results_cell rfl _ _ _ _ _ _ _ rfl (HB5.o.set _ _) Tryz.underlying30 rfl (by kernel_rfl)) rfl ⟨y.1,y.2,rfl,?_,?_⟩
 ·exact((HO.o.oz).oz).mono hz5
 ·exact(HG5.o.sc).sc
end Limb
namespace Book
open Go.RowKit Go.Sort Go.Fresh Limb
structure OwnT (w:World) (base:Nat) (a:Option Addr) (n cap:Nat) (F:Nat->Value):Prop where
 le:n<=cap
 place:(a=none/\n=0/\cap=0)\/∃ g cur,a=some ⟨g,0,none⟩/\base<=g/\w.heap[g]?=some (.cells cur 37 (0,0))/\cap*8<=cur.size/\∀ i,i<n*8->cur[i]?=some (F i)
theorem OwnT.keep {w w':World} {base:Nat} {a:Option Addr} {n cap:Nat} {F:Nat->Value} (h:OwnT w base a n cap F) (hk:∀ p,a=some p->w'.heap[p.block]?=w.heap[p.block]?):OwnT w' base a n cap F:=by
 refine⟨h.le,?_⟩
 rcases h.place with h0 | ⟨g,cur,ha,hbg,hg,hcap,hc⟩
 ·exact Or.inl h0
 ·exact Or.inr ⟨g,cur,ha,hbg,(hk _ ha).trans hg,hcap,hc⟩
theorem OwnT.below {w w':World} {base:Nat} {a:Option Addr} {n cap:Nat} {F:Nat->Value} (h:OwnT w base a n cap F) (hb:Below w.heap.size w w'):OwnT w' base a n cap F:=by
 refine⟨h.le,?_⟩
 rcases h.place with h0 | ⟨g,cur,ha,hbg,hg,hcap,hc⟩
 ·exact Or.inl h0
 ·exact Or.inr ⟨g,cur,ha,hbg,(hb.block g (lt_of_block hg)).trans hg,hcap,hc⟩
theorem OwnT.mono {w:World} {base base':Nat} {a:Option Addr} {n cap:Nat} {F:Nat->Value} (h:OwnT w base a n cap F) (hb:base'<=base):OwnT w base' a n cap F:=by
 refine⟨h.le,?_⟩
 rcases h.place with h0 | ⟨g,cur,ha,hbg,hg,hcap,hc⟩
 ·exact Or.inl h0
 ·exact Or.inr ⟨g,cur,ha,by omega,hg,hcap,hc⟩
theorem OwnT.blk {w:World} {base:Nat} {a:Option Addr} {n cap:Nat} {F:Nat->Value} (h:OwnT w base a n cap F) {p:Addr} (hp:a=some p):p=⟨p.block,0,none⟩/\base<=p.block/\p.block<w.heap.size:=by
 rcases h.place with h0 | ⟨g,cur,ha,hbg,hg,hcap,hc⟩
 ·rw[h0.1] at hp;cases hp
 ·obtain rfl:=Option.some.inj (ha.symm.trans hp);exact⟨rfl,hbg,lt_of_block hg⟩
theorem OwnT.some_of_pos {w:World} {base:Nat} {a:Option Addr} {n cap:Nat} {F:Nat->Value} (h:OwnT w base a n cap F) (hn:0<n):∃ g,a=some ⟨g,0,none⟩:=by
 rcases h.place with h0 | ⟨g,cur,ha,_⟩
 ·omega
 ·exact⟨g,ha⟩
theorem OwnT.fz {w:World} {base g n cap:Nat} {F:Nat->Value} (h:OwnT w base (some ⟨g,0,none⟩) n cap F) (i:Nat):w.frozen? ⟨g,i,none⟩=false:=by
 rcases h.place with h0 | ⟨g',cur,ha,hbg,hg,hcap,hc⟩
 ·cases h0.1
 ·cases ha;exact frozen_of_row w _ i cur _ hg
theorem OwnT.cell {w:World} {base g n cap:Nat} {F:Nat->Value} (h:OwnT w base (some ⟨g,0,none⟩) n cap F) {i:Nat} (hi:i<n*8):w.cell? ⟨g,i,none⟩=some (F i):=by
 rcases h.place with h0 | ⟨g',cur,ha,hbg,hg,hcap,hc⟩
 ·cases h0.1
 ·cases ha
  rw[cell_of_row _ _ _ _ _ _ hg];exact hc i hi
theorem OwnT.congr {w:World} {base:Nat} {a:Option Addr} {n cap:Nat} {F F':Nat->Value} (h:OwnT w base a n cap F) (e:∀ i,i<n*8->F i=F' i):OwnT w base a n cap F':=by
 refine⟨h.le,?_⟩
 rcases h.place with h0 | ⟨g,cur,ha,hbg,hg,hcap,hc⟩
 ·exact Or.inl h0
 ·exact Or.inr ⟨g,cur,ha,hbg,hg,hcap,fun i hi=>by rw[hc i hi,e i hi]⟩
def updV (F:Nat->Value) (t:Nat) (v:Value) (i:Nat):Value:=if i=t then v else F i
theorem OwnT.put {w:World} {base g n cap:Nat} {F:Nat->Value} (h:OwnT w base (some ⟨g,0,none⟩) n cap F) {t:Nat} (ht:t<n*8) (v:Value):OwnT (w.setCell ⟨g,t,none⟩ v) base (some ⟨g,0,none⟩) n cap (updV F t v):=by
 refine⟨h.le,?_⟩
 rcases h.place with h0 | ⟨g',cur,ha,hbg,hg,hcap,hc⟩
 ·cases h0.1
 ·cases ha
  have hle:=Nat.mul_le_mul_right 8 h.le;refine Or.inr ⟨g,cur.setIfInBounds t v,rfl,hbg,heap_setCell_same w g t cur _ _ hg,by simpa using hcap,fun i hi=>?_⟩;rw[Array.getElem?_setIfInBounds];by_cases e:t=i
  ·subst e;rw[if_pos rfl,if_pos (by omega)];unfold updV;rw[if_pos rfl]
  ·rw[if_neg e];unfold updV;rw[if_neg fun h=>e h.symm];exact hc i hi
def put8 (w:World) (g t:Nat) (m:Nat->Value):World:=(((((((w.setCell ⟨g,t*8,none⟩ (m 0)).setCell ⟨g,t*8+1,none⟩ (m 1)).setCell ⟨g,t*8+2,none⟩ (m 2)).setCell ⟨g,t*8+3,none⟩ (m 3)).setCell ⟨g,t*8+4,none⟩ (m 4)).setCell ⟨g,t*8+5,none⟩ (m 5)).setCell ⟨g,t*8+6,none⟩ (m 6)).setCell ⟨g,t*8+7,none⟩ (m 7)
def updT (F:Nat->Value) (t:Nat) (m:Nat->Value) (i:Nat):Value:=if i/8=t then m (i%8) else F i
theorem OwnT.put8 {w:World} {base g n cap:Nat} {F:Nat->Value} (h:OwnT w base (some ⟨g,0,none⟩) n cap F) {t:Nat} (ht:t<n) (m:Nat->Value):OwnT (Book.put8 w g t m) base (some ⟨g,0,none⟩) n cap (updT F t m):=by
 have h8:=(((((((h.put (t:=t*8) (by omega) (m 0)).put (t:=t*8+1) (by omega) (m 1)).put (t:=t*8+2) (by omega) (m 2)).put (t:=t*8+3) (by omega) (m 3)).put (t:=t*8+4) (by omega) (m 4)).put (t:=t*8+5) (by omega) (m 5)).put (t:=t*8+6) (by omega) (m 6)).put (t:=t*8+7) (by omega) (m 7)
 refine h8.congr fun i _=>?_
 unfold updT updV;by_cases e:i/8=t
 ·rw[if_pos e];have h9:i%8<8:=Nat.mod_lt _ (by decide)
  have h10:i=t*8+i%8:=by omega
  generalize i%8=r at h9 h10
  subst h10
  match r,h9 with
  | 0,_=>rw[if_neg (by omega),if_neg (by omega),if_neg (by omega),if_neg (by omega),if_neg (by omega),if_neg (by omega),if_neg (by omega),if_pos (by omega)]
  | 1,_=>rw[if_neg (by omega),if_neg (by omega),if_neg (by omega),if_neg (by omega),if_neg (by omega),if_neg (by omega),if_pos rfl]
  | 2,_=>rw[if_neg (by omega),if_neg (by omega),if_neg (by omega),if_neg (by omega),if_neg (by omega),if_pos rfl]
  | 3,_=>rw[if_neg (by omega),if_neg (by omega),if_neg (by omega),if_neg (by omega),if_pos rfl]
  | 4,_=>rw[if_neg (by omega),if_neg (by omega),if_neg (by omega),if_pos rfl]
  | 5,_=>rw[if_neg (by omega),if_neg (by omega),if_pos rfl]
  | 6,_=>rw[if_neg (by omega),if_pos rfl]
  | 7,_=>rw[if_pos rfl]
 ·rw[if_neg e,if_neg (by omega),if_neg (by omega),if_neg (by omega),if_neg (by omega),if_neg (by omega),if_neg (by omega),if_neg (by omega),if_neg (by omega)]
def mc (j:Nat) (i:Nat):Value:=match i with
 | 0=>.bool false
 | 1=>.slice none 0 0
 | 2=>.bool false
 | 3=>.slice none 0 0
 | 4=>.int .u16 ((j:Int)+2)
 | _=>.int .u16 0
theorem markT_any (j:Nat) (w:World) (h:j<=30000):Calls Tryz.prog 122 #[.int .i64 ((j:Int)+1)] w fun e w'=>e=.returned (.agg #[.bool false,.slice none 0 0,.bool false,.slice none 0 0,.int .u16 ((j:Int)+2),.int .u16 0,.int .u16 0,.int .u16 0])/\Below w.heap.size w w':=by
 have e1:=IntWalk.i64_in ((j:Int)+1) (by omega);have e2:=IntWalk.i64_in (1+((j:Int)+1)) (by omega);have e3:=IntWalk.u16_in (1+((j:Int)+1)) (by omega);have e4:((j:Int)+1).tmod 60000=(j:Int)+1:=Int.tmod_eq_of_lt (by omega) (by omega);have e5:((j:Int)+1).tdiv 60000=0:=Int.tdiv_eq_zero_of_lt (by omega) (by omega)
 have e6:1+((j:Int)+1)=(j:Int)+2:=by omega
 go_enter Tryz.func122,Tryz.ntmps122;go_wp2;exact bodyPost_ret (results_cell rfl _ _ _ _ _ _ _ rfl (heap_alloc_new w _) Tryz.underlying37 rfl (by kernel_rfl)) rfl ⟨rfl,zk.alloc zj _⟩
end Book
end Go.Proofs.YthacfgmdihcffaaGreatDoor
