/-
  The walk of a Book's Apart: no two lists share memory; lists of limbs and rows of terms.
-/
import Derived.Test.YthacfgmdihcffaaGreatDoorPzRE
import Derived.Deep.DeepCutAuto
import Derived.Deep.RegionHeld3
import Derived.WalkMore
import Derived.Laws.MakeOwn
set_option linter.unusedSimpArgs false
set_option linter.unusedVariables false
set_option maxHeartbeats 16000000
set_option maxRecDepth 100000
namespace Go.Proofs.YthacfgmdihcffaaGreatDoor
namespace Limb
open Go.RowKit Go.Sort Go.Fresh
theorem scale_plain {ob:Nat->Int} {m:Nat} (hd:Dig ob (m+1)) (ht:ob m≠0):1<=1000000000/(ob m+1)/\1000000000/(ob m+1)<=500000000/\sumB ob (m+1)*(1000000000/(ob m+1))<(pw (m+1):Int)/\(pw m:Int)<=sumB ob (m+1):=by
 have h:=hd m (by omega)
 have b:=sumB_bd (o:=ob) (n:=m) fun k hk=>hd k (by omega)
 have hp:(0:Int)<(pw m:Int):=by have:=pw_pos m;omega
 have h1:1<=1000000000/(ob m+1):=(Int.le_ediv_iff_mul_le (by omega)).2 (by omega)
 have h2:1000000000/(ob m+1)<=500000000:=by
  have:1000000000/(ob m+1)<500000001:=Int.ediv_lt_of_lt_mul (by omega) (by omega);omega
 have h3:1000000000/(ob m+1)*(ob m+1)<=1000000000:=Int.ediv_mul_le _ (by omega)
 generalize 1000000000/(ob m+1)=s at *
 have e:sumB ob (m+1)=sumB ob m+ob m*(pw m:Int):=rfl;refine⟨h1,h2,?_,?_⟩
 ·have a1:sumB ob (m+1)<(ob m+1)*(pw m:Int):=by rw[e,Int.add_mul];omega
  have a2:sumB ob (m+1)*s<(ob m+1)*(pw m:Int)*s:=Int.mul_lt_mul_of_pos_right a1 (by omega)
  have a3:(ob m+1)*(pw m:Int)*s=s*(ob m+1)*(pw m:Int):=by rw[Int.mul_comm,<- Int.mul_assoc]
  have a4:s*(ob m+1)*(pw m:Int)<=1000000000*(pw m:Int):=Int.mul_le_mul_of_nonneg_right h3 (by omega);rw[pw_succ,Int.natCast_mul];omega
 ·have a1:1*(pw m:Int)<=ob m*(pw m:Int):=Int.mul_le_mul_of_nonneg_right (by omega) (by omega);rw[e];omega
theorem scaled_top {p:Nat->Int} {m:Nat} {V:Int} (hd:Dig p (m+1+1)) (hs:sumB p (m+1+1)=V) (hlt:V<(pw (m+1):Int)) (hge:(pw m:Int)<=V):sumB p (m+1)=V/\0<p m:=by
 have b:=sumB_bd (o:=p) (n:=m+1) fun k hk=>hd k (by omega)
 have b2:=sumB_bd (o:=p) (n:=m) fun k hk=>hd k (by omega)
 have hp:(0:Int)<(pw (m+1):Int):=by have:=pw_pos (m+1);omega
 have e:sumB p (m+1+1)=sumB p (m+1)+p (m+1)*(pw (m+1):Int):=rfl;have e2:sumB p (m+1)=sumB p m+p m*(pw m:Int):=rfl
 have h0:p (m+1)=0:=by
  have h:=hd (m+1) (by omega)
  rcases Int.lt_or_le 0 (p (m+1)) with h1 | h1
  ·have:1*(pw (m+1):Int)<=p (m+1)*(pw (m+1):Int):=Int.mul_le_mul_of_nonneg_right (by omega) (by omega);omega
  ·omega
 rw[h0,Int.zero_mul,Int.add_zero] at e;refine⟨by omega,?_⟩;have h:=hd m (by omega)
 rcases Int.lt_or_le 0 (p m) with h1 | h1
 ·exact h1
 ·have:p m=0:=by omega
  rw[this,Int.zero_mul] at e2;omega
structure DivW (w wr:World) (gu gq gv bv n L M cv:Nat) (up qp vp:Nat->Int):Prop where
 u:Own 128 wr w.heap.size (some ⟨gu,0,none⟩) L L up
 q:Own 128 wr w.heap.size (some ⟨gq,0,none⟩) M M qp
 v:Own 128 wr w.heap.size (some ⟨gv,0,none⟩) n cv vp
 vb:wr.rowIs bv 28 1 (fun _=>.slice (some ⟨gv,0,none⟩) n cv)
 bel:Below w.heap.size w wr
def Scaled (w:World) (L N:Nat) (A V:Int) (gu gv bv:Nat) (up vp:Nat->Int) (wx:World):Prop :=
 Dig up L/\sumB up L=A/\Dig vp (N+1)/\sumB vp (N+1)=V/\Own 128 wx w.heap.size (some ⟨gu,0,none⟩) L L up/\Own 128 wx w.heap.size (some ⟨gv,0,none⟩) (N+1) (N+1) vp /\
  wx.rowIs bv 28 1 (fun _=>.slice (some ⟨gv,0,none⟩) N (N+1))/\(gu≠gv/\gu≠bv/\gv≠bv)/\w.heap.size<=bv/\Below w.heap.size w wx
theorem row_one (w:World) (v:Value) (t:TypeId):(w.alloc (.cells #[v] t)).rowIs w.heap.size t 1 (fun _=>v):=World.rowIs_alloc w #[v] t (fun _=>v) (fun i hi=>by
 match i,hi with
 | 0,_=>rfl)
theorem scaled_1 {w wa wb:World} {L N:Nat} {A V:Int} {gu gv:Nat} {up vp:Nat->Int} (du:Dig up L) (su:sumB up L=A) (dv:Dig vp (N+1)) (sv:sumB vp (N+1)=V) (ou:Own 128 wa w.heap.size (some ⟨gu,0,none⟩) L L up) (ov:Own 128 wb wa.heap.size (some ⟨gv,0,none⟩) (N+1) (N+1) vp)
  (hA1:Below w.heap.size w wa) (hbb:Below wa.heap.size wa wb):Scaled w L N A V gu gv wb.heap.size up vp (wb.alloc (.cells #[.slice (some ⟨gv,0,none⟩) N (N+1)] 28)):=by
 have h1:=(ou.blk rfl).2;have h2:=(ov.blk rfl).2;dsimp only at h1 h2;have hB1:=hA1.trans (hbb.mono hA1.size);exact⟨du,su,dv,sv,(ou.below hbb).allocd _,(ov.mono hA1.size).allocd _,row_one wb _ _,⟨by omega,by have:=hbb.size;omega,by omega⟩,hB1.size,hB1.alloc hB1.size _⟩
theorem scaled_2 {w wa wb:World} {L N:Nat} {A V:Int} {gu gv:Nat} {up vp:Nat->Int} (du:Dig up L) (su:sumB up L=A) (dv:Dig vp (N+1)) (sv:sumB vp (N+1)=V) (ou:Own 128 wa w.heap.size (some ⟨gu,0,none⟩) L L up)
  (ov:Own 128 wb (wa.alloc (.cells #[.slice none 0 0] 28)).heap.size (some ⟨gv,0,none⟩) (N+1) (N+1) vp)
  (hA1:Below w.heap.size w wa) (hbb:Below (wa.alloc (.cells #[.slice none 0 0] 28)).heap.size (wa.alloc (.cells #[.slice none 0 0] 28)) wb) :
  Scaled w L N A V gu gv wa.heap.size up vp (wb.setCell ⟨wa.heap.size,0,none⟩ (.slice (some ⟨gv,0,none⟩) N (N+1))):=by
 have h1:=(ou.blk rfl).2;have h2:=(ov.blk rfl).2;dsimp only at h1 h2;rw[World.size_alloc] at h2;have hB0:Below w.heap.size w (wa.alloc (.cells #[.slice none 0 0] 28)):=hA1.alloc hA1.size _;have hB1:=hB0.trans (hbb.mono hB0.size);have hs:=hA1.size
 refine⟨du,su,dv,sv,((ou.allocd _).below hbb).keep (fun p hp=>Below.heap_setCell _ _ _ _ (by cases hp;dsimp only;omega)),(ov.mono (by simp;omega)).keep (fun p hp=>Below.heap_setCell _ _ _ _ (by cases hp;dsimp only;omega)),
  (((row_one wa _ _).of_block (hbb.block _ (by simp))).set 0 _).congr (fun i hi=>by rw[if_pos (by omega)]),⟨by omega,by omega,by omega⟩,hs,hB1.setCell hs _⟩
theorem scaled_3 {w w0 wa wb:World} {L N:Nat} {A V:Int} {gu gv:Nat} {up vp:Nat->Int} (hw0:w0=(w.alloc (.cells #[.slice none 0 0] 28)).drew) (du:Dig up L) (su:sumB up L=A) (dv:Dig vp (N+1)) (sv:sumB vp (N+1)=V)
  (ou:Own 128 wa w0.heap.size (some ⟨gu,0,none⟩) L L up) (ov:Own 128 wb wa.heap.size (some ⟨gv,0,none⟩) (N+1) (N+1) vp) (hba:Below w0.heap.size w0 wa) (hbb:Below wa.heap.size wa wb) :
  Scaled w L N A V gu gv w.heap.size up vp (wb.setCell ⟨w.heap.size,0,none⟩ (.slice (some ⟨gv,0,none⟩) N (N+1))):=by
 have h1:=(ou.blk rfl).2;have h2:=(ov.blk rfl).2;dsimp only at h1 h2
 have hs0:w0.heap.size=w.heap.size+1:=by rw[hw0];show(w.alloc _).heap.size=_;simp
 have hB0:Below w.heap.size w w0:=by rw[hw0];exact(zk.alloc zj _).drew
 have hB1:=(hB0.trans (hba.mono hB0.size)).trans (hbb.mono (zm hB0.size hba.size));have hz:=hba.size
 have r0:w0.rowIs w.heap.size 28 1 (fun _=>.slice none 0 0):=by rw[hw0];exact(row_one w _ _)
 refine⟨du,su,dv,sv,((ou.mono (by omega)).below hbb).keep (fun p hp=>Below.heap_setCell _ _ _ _ (by cases hp;dsimp only;omega)),(ov.mono (by omega)).keep (fun p hp=>Below.heap_setCell _ _ _ _ (by cases hp;dsimp only;omega)),
  (((r0.of_block (hba.block _ (by omega))).of_block (hbb.block _ (by omega))).set 0 _).congr (fun i hi=>by rw[if_pos (by omega)]),⟨by omega,by omega,by omega⟩,zj,hB1.setCell zj _⟩
theorem wide_grown (a:Option Addr) (n c:Nat) (o:Nat->Int) (by':Int) (w:World) (hx:Rd w a n o) (dx:Dig o n) (hn:n<=200000000) (hb:0<=by'/\by'<=999999999) (w':World) (h:Below w.heap.size w w') :
  Calls Tryz.prog 249 #[.slice a n c,.int .u32 by'] w' fun e w''=>∃ g p,e=.returned (.slice (some ⟨g,0,none⟩) (n+1) (n+1))/\Dig p (n+1)/\sumB p (n+1)=sumB o n*by'/\Own 128 w'' w'.heap.size (some ⟨g,0,none⟩) (n+1) (n+1) p/\Below w'.heap.size w' w''/\Below w.heap.size w w''/\w'.heap.size<=g/\g<w''.heap.size:=by
 refine(wide_any a n c o by' w' (hx.below h) dx hn hb).mono ?_;rintro e w'' ⟨g,p,rfl,h1,h2,h3,h4⟩;exact⟨g,p,rfl,h1,h2,h3,h4,h.trans (h4.mono h.size),(h3.blk rfl).2.1,(h3.blk rfl).2.2⟩
theorem DivW.drewN {w wr:World} {gu gq gv bv n L M cv:Nat} {up qp vp:Nat->Int} (h:DivW w wr gu gq gv bv n L M cv up qp vp) (k:Nat):DivW w (wr.drewN k) gu gq gv bv n L M cv up qp vp:=by
 have hb:Below wr.heap.size wr (wr.drewN k):=bdrewN zk k;exact⟨h.u.below hb,h.q.below hb,h.v.below hb,h.vb.of_block (hb.block _ h.vb.lt),h.bel.trans (hb.mono h.bel.size)⟩
theorem DivW.setBox {w wr:World} {gu gq gv bv n L M cv bg:Nat} {up qp vp:Nat->Int} (h:DivW w wr gu gq gv bv n L M cv up qp vp) (hne:gu≠bg/\gq≠bg/\gv≠bg/\bv≠bg) (hb:w.heap.size<=bg) (x:Value):DivW w (wr.setCell ⟨bg,0,none⟩ x) gu gq gv bv n L M cv up qp vp :=
 ⟨h.u.keep fun p hp=>Below.heap_setCell _ _ _ _ (by cases hp;exact hne.1),h.q.keep fun p hp=>Below.heap_setCell _ _ _ _ (by cases hp;exact hne.2.1),h.v.keep fun p hp=>Below.heap_setCell _ _ _ _ (by cases hp;exact hne.2.2.1),h.vb.setOther hne.2.2.2 _,h.bel.setCell hb _⟩
def boxN (w:World) (b:Nat):Nat:=match w.cell? ⟨b,0,none⟩ with | some (.int _ g)=>g.toNat | _=>0
theorem boxN_row {w:World} {b:Nat} {t:TypeId} {k:IntKind} {g:Int} (h:w.rowIs b t 1 (fun _=>.int k g)):boxN w b=g.toNat:=by
 unfold boxN;rw[h.cell (i:=0) (by omega)]
theorem divide_any (a b:Option Addr) (la ca N n m cb L M:Nat) (oa ob:Nat->Int) (w:World) (ha:Rd w a la oa) (hb:Rd w b N ob) (da:Dig oa la) (db:Dig ob N) (hla:la<=100000000) (hN:N=n+1) (hn:n=m+1) (hL:L=la+1) (hM:M+N=L) (hNa:N<=la) (ht:ob n≠0) :
  Calls Tryz.prog 237 #[.slice a la ca,.slice b N cb] w fun e w'=>∃ gq gr qp rp,e=.returned (.tuple #[.slice (some ⟨gq,0,none⟩) M M,.slice (some ⟨gr,0,none⟩) N N])/\gq≠gr /\
   Dig qp M/\sumB qp M=sumB oa la/sumB ob N/\Dig rp N/\sumB rp N=sumB oa la%sumB ob N /\
   Own 128 w' w.heap.size (some ⟨gq,0,none⟩) M M qp/\Own 128 w' w.heap.size (some ⟨gr,0,none⟩) N N rp/\Below w.heap.size w w':=by
 obtain⟨sc,hsc⟩:∃ sc,sc=1000000000/(ob n+1):=⟨_,rfl⟩;have SP:=scale_plain (ob:=ob) (m:=n) (by rw[<- hN];exact db) ht;rw[<- hsc,<- hN] at SP;obtain⟨p1,p2,p3,p4⟩:=SP;have HP:=qh (And.intro p3 p4);have htop:=db n (by omega);obtain⟨bb,bo,rfl,hc⟩:=hb.cells (by omega);have c1:w.cell? ⟨bb,bo+n,none⟩=some (.int .u32 (ob n)):=hc n (by omega)
 have t1:(1000000000:Int).tdiv (ob n+1)=sc:=by rw[hsc];exact Int.tdiv_eq_ediv_of_nonneg (by omega)
 have WA:=qh (fun (w':World) (h:Below w.heap.size w w')=>wide_grown a la ca oa sc w ha da (by omega) (by omega) w' h);have WB:=qh (fun (w':World) (h:Below w.heap.size w w')=>wide_grown (some ⟨bb,bo,none⟩) N cb ob sc w hb db (by omega) (by omega) w' h);rw[<- hL] at WA;have DA:=qh (And.intro da db);obtain⟨tp,htp⟩:∃ tp,tp=ob n:=⟨_,rfl⟩;rw[<- htp] at c1 t1 htop;have e1:=IntWalk.u32_in (tp+1) (by omega);have e2:=IntWalk.u32_in sc (by omega)
 have x1:¬(tp+1=0):=by omega
 have xn:(N:Int)-1=(n:Int):=by omega
 have xn2:=IntWalk.i64_in ((N:Int)-1) (by omega)
 have hnN:n<N:=by omega
 have HT:=qh htp;have HEQ:=qh (And.intro (And.intro hN hn) (And.intro hL hM));clear ha hb da db hc htop p3 p4 hsc ht htp hN hn hL;go_enter Tryz.func237,Tryz.ntmps237;go_wp2_with fail
 go_step3
 go_upto_region 3 with (fail)
 go_cut [8,9] (fun v8 v9 wx=>∃ gu gv bv up vp,v8=.slice (some ⟨gu,0,none⟩) L L/\v9=.pointer (some ⟨bv,0,none⟩)/\Scaled w L N (sumB oa la*sc) (sumB ob N*sc) gu gv bv up vp wx)
 case first =>
  have xs1:(N:Int)<=(N:Int)+1:=by omega
  have xs2:(0:Int)<=(N:Int):=by omega
  have HBB:=qh (Below.refl w.heap.size w)
  go_region_held3 (fun w'=>Below w.heap.size w w')
   (repeat (first
    | (with_reducible assumption)
    | (with_reducible exact zk)
    | (with_reducible refine Below.setCell ?_ ?_ _)
    | (with_reducible refine Below.alloc ?_ ?_ _)
    | (with_reducible refine Below.drew ?_)
    | (simp only[World.size_alloc,World.size_drew,World.size_setCell];omega) | omega))
   (first
    | (go_at_call 249;refine(WA.o _ (by first | with_reducible assumption | exact Below.drew zk | exact(by with_reducible assumption:Below _ _ _).alloc (by with_reducible assumption) _ | exact(Below.drew zk).alloc zj _)).mono ?_;rintro e wa ⟨gu,up,rfl,du,su,ou,hba,hA1,ga1,ga2⟩;have hsa:=hA1.size;obtain⟨hca,hfa⟩:=bcell hba;have hza:=hba.size;(try simp only[World.size_alloc,World.size_drew] at hza hca hfa);(try rw[Nat.add_one_le_iff] at hza))
    | (go_at_call 249;refine(WB.o _ (by first | with_reducible assumption | exact Below.drew zk | exact(by with_reducible assumption:Below _ _ _).alloc (by with_reducible assumption) _ | exact(Below.drew zk).alloc zj _)).mono ?_;rintro e wb ⟨gv,vp,rfl,dv,sv,ov,hbb,hB1,gb1,gb2⟩;have hsb:=hB1.size;obtain⟨hcb,hfb⟩:=bcell hbb;have hzb:=hbb.size;(try simp only[World.size_alloc,World.size_drew] at hzb hcb hfb);(try rw[Nat.add_one_le_iff] at hzb)))
  ·go_wp2_with fail
   go_meet
   case rel=>exact⟨gu,gv,_,up,vp,rfl,rfl,scaled_1 du su dv sv ou ov hA1 hbb⟩
  ·go_wp2_with fail
   go_meet
   case rel=>exact⟨gu,gv,_,up,vp,rfl,rfl,scaled_2 du su dv sv ou ov hA1 hbb⟩
  ·go_wp2_with fail
   go_meet
   case rel=>exact⟨gu,gv,_,up,vp,rfl,rfl,scaled_3 rfl du su dv sv ou ov hba hbb⟩
 case rest =>
  obtain⟨gu,gv,bv,up,vp,rfl,rfl,hsc⟩:=hcut;obtain⟨w1,rfl⟩:∃ w1,w1=wc:=⟨_,rfl⟩;obtain⟨V,hV⟩:∃ V,V=sumB ob N*sc:=⟨_,rfl⟩;obtain⟨X,hX⟩:∃ X,X=sumB oa la*sc:=⟨_,rfl⟩;rw[<- hV,<- hX] at hsc;obtain⟨du,su,dv,sv,ou,ov,rv,hdis,hbv,hbel⟩:=hsc;have HSC:=qh (And.intro (And.intro du su) (And.intro ou ov));have HD:=qh hdis;have hbe:=HEQ.o.1.1;have hLe:=HEQ.o.2.1
  have hVlt:V<(pw N:Int):=by rw[hV];exact HP.o.1
  have hVge:(pw n:Int)<=V:=by
   have h1:=HP.o.2;have h2:sumB ob N*1<=sumB ob N*sc:=Int.mul_le_mul_of_nonneg_left p1 (by have:=(sumB_bd DA.o.2).1;omega);rw[hV];omega
  have hpn:(0:Int)<(pw n:Int):=by have:=pw_pos n;omega
  have hV0:0<V:=by omega
  have HT2:=scaled_top (p:=vp) (m:=n) (V:=V) (by rw[<- hbe];exact dv) (by rw[<- hbe];exact sv) (by rw[<- hbe];exact hVlt) hVge;rw[<- hbe] at HT2;have HVT:=qh HT2;have HVV:=qh (And.intro (And.intro hV hX) (And.intro hVlt (And.intro hVge hV0)))
  have hX0:X<V*(pw M:Int):=by
   have b:=sumB_bd DA.o.1;have e1:sumB oa la*sc<(pw la:Int)*sc:=Int.mul_lt_mul_of_pos_right b.2 (by omega)
   have e2:(pw la:Int)*sc<=V*(pw M:Int):=by
    have h3:(pw la:Int)=(pw n:Int)*(pw M:Int):=by rw[<- Int.natCast_mul,<- pw_add];congr 1;congr 1;have:=HEQ.o;omega
    rw[h3,hV,Int.mul_assoc,Int.mul_assoc];have h4:=HP.o.2;have h5:(pw n:Int)*((pw M:Int)*sc)<=sumB ob N*((pw M:Int)*sc):=Int.mul_le_mul_of_nonneg_right h4 (Int.mul_nonneg (by omega) (by omega));rwa [Int.mul_comm (pw M:Int) sc] at h5 ⊢
   rw[hX];omega
  have hmk:=run_make_row' (P:=Tryz.prog) 28 128 (.int .u32 0) 4 Tryz.underlying28 info32 rfl .i64 .i64 M (by omega) (by omega)
  have xl:(L:Int)-(N:Int)=(M:Int):=by omega
  have xl2:=IntWalk.i64_in ((L:Int)-(N:Int)) (by omega);have xw:=IntWalk.i64_in (M:Int) (by omega);have xM1:=IntWalk.i64_in ((M:Int)-1) (by omega)
  have xm0:(0:Int)<(M:Int):=by omega
  have xm1:(0:Int)<=(M:Int):=by omega
  have xm2:max (0:Int) (M:Int)=(M:Int):=by omega
  have hdv:Dig vp N:=fun k hk=>dv k (by omega)
  have W0:=qh (show DivW w (w1.alloc (.cells (madeCells #[Value.int .u32 0] M) 128)) gu w1.heap.size gv bv N L M (N+1) up (fun _=>0) vp from
   ⟨ou.allocd _,Own.of_rowIs (World.rowIs_made w1 (.int .u32 0) M 128) hbel.size (fun i hi=>by omega),(ov.less (by omega)).allocd _,rv.alloc _,hbel.alloc hbel.size _⟩)
  have D0:=qh (show DivI X V N L M M up (fun _=>0) from⟨du,fun k _=>⟨by omega,by omega⟩,fun _ _=>rfl,by rw[Nat.sub_self,sumB,su];simp,by rw[su];exact hX0⟩);have HDIS:=qh (show(gu≠gv/\gu≠bv/\gv≠bv)/\(gu<w1.heap.size/\gv<w1.heap.size/\bv<w1.heap.size) from⟨hdis,(ou.blk rfl).2.2,(ov.blk rfl).2.2,rv.lt⟩);have HDV:=qh hdv;clear du su dv sv ou ov rv hdis hbv hbel hbe hLe hVlt hVge hpn hV0 HT2 hX0 hdv hV hX;go_wp2_with fail
  go_step3;go_wp2_with fail
  go_loopw [10] (fun iv wr=>∃ i:Nat,i<=M/\iv=.int .i64 ((i:Int)-1)/\∃ up qp,DivI X V N L M i up qp/\DivW w wr gu w1.heap.size gv bv N L M (N+1) up qp vp) (fun iv _=>(1+intOf iv).toNat)
  case atStart=>exact⟨M,zj,rfl,up,_,D0.o,W0.o⟩
  case round =>
   obtain⟨wo,rfl⟩:∃ wo,wo=wr:=⟨_,rfl⟩;obtain⟨i,hi,rfl,up2,qp2,hD,hW⟩:=hrel;have KD:=qh hD;have KW:=qh hW;clear hD hW hmk;by_cases hi0:i=0
   ·subst hi0;rw[show(((0:Nat):Int)-1) = -1 from rfl];have hlow:=sum_low (o:=up2) (n:=N) (L:=L) KD.o.udig (by omega) (by have:=KD.o.lt;rw[pw_zero] at this;have:=HVV.o.2.1;omega);have hb:=KD.o.bal;have hlt:=KD.o.lt;rw[pw_zero,show(fun k=>qp2 (0+k))=qp2 from by funext k;rw[Nat.zero_add],Nat.sub_zero] at hb;rw[pw_zero] at hlt;have hu0:=(sumB_bd KD.o.udig).1;have hE:=div_end (A:=sumB oa la) (Bv:=sumB ob N) (sc:=sc) (Q:=sumB qp2 M) (R:=sumB up2 L) (by omega) (by rw[<- HVV.o.1.2,<- HVV.o.1.1];rw[hb];simp) hu0 (by rw[<- HVV.o.1.1];simpa using hlt);have SH:=qh (short_any (some ⟨gu,0,none⟩) N L up2 sc wo (KW.o.u.less (by omega)).rd (fun k hk=>KD.o.udig k (by omega)) (by omega) (by omega) (by omega));rw[hlow] at SH;have HE:=qh hE
    have xs1:(N:Int)<=(L:Int):=by omega
    have xs2:(0:Int)<=(N:Int):=by omega
    clear hlow hb hlt hu0 hE;go_wp2_with fail
    refine SH.o.mono ?_;rintro e w2 ⟨rp,rfl,dr,sr,orr,hb2⟩;have HRR:=qh (And.intro (And.intro dr sr) (And.intro orr hb2));clear dr sr orr hb2 SH;go_wp2_with fail
    rw[Exit.noGoto_ret];go_ret2;exact⟨w1.heap.size,wo.heap.size,qp2,rp,rfl,by have:=(KW.o.q.blk rfl).2.2;dsimp only at this;omega,KD.o.qdig,HE.o.1,HRR.o.1.1,HRR.o.1.2.trans HE.o.2,KW.o.q.below HRR.o.2.2,HRR.o.2.1.mono KW.o.bel.size,KW.o.bel.trans (HRR.o.2.2.mono KW.o.bel.size)⟩
   ·obtain⟨j,rfl⟩:∃ j,i=j+1:=⟨i-1,by omega⟩;rw[show(((j+1:Nat):Int)-1)=(j:Int) by omega];have hH:=KD.o.head (by omega) (by omega) HVV.o.2.1 HVV.o.2.2.2;have HH:=qh hH;have hLe:=HEQ.o.2.1;have xj1:=IntWalk.i64_in ((j:Int)+(N:Int)) (by omega);have xj2:=IntWalk.i64_in ((j:Int)+(N:Int)+1) (by omega);have xj6:=IntWalk.i64_in ((j:Int)-1) (by omega)
    have xj3:(j:Int)<=(j:Int)+(N:Int)+1:=by omega
    have xj4:(j:Int)+(N:Int)+1<=(L:Int):=by omega
    have xj5:(0:Int)<=(j:Int):=by omega
    have xlen:j+N+1-j=N+1:=by omega
    clear hH hLe
    go_upto_region 9 with (fail)
    obtain⟨Wh,hWh⟩:∃ Wh,Wh=wo.alloc (.cells #[.slice (some ⟨gu,j,none⟩) (N+1) (L-j)] 28):=⟨_,rfl⟩;have LW:=qh (show DivW w Wh gu w1.heap.size gv bv N L M (N+1) up2 qp2 vp by rw[hWh];exact⟨KW.o.u.allocd _,KW.o.q.allocd _,KW.o.v.allocd _,KW.o.vb.alloc _,KW.o.bel.alloc KW.o.bel.size _⟩);have LH:=qh (show Wh.rowIs wo.heap.size 28 1 (fun _=>.slice (some ⟨gu,j,none⟩) (N+1) (L-j)) by rw[hWh];exact row_one wo _ _);have HSZ:=qh (show gu<wo.heap.size/\w1.heap.size<wo.heap.size/\gv<wo.heap.size/\bv<wo.heap.size/\Wh.heap.size=wo.heap.size+1 from⟨(KW.o.u.blk rfl).2.2,(KW.o.q.blk rfl).2.2,(KW.o.v.blk rfl).2.2,KW.o.vb.lt,by rw[hWh];simp⟩);rw[show wo.alloc (.cells #[.slice (some ⟨gu,j,none⟩) (N+1) (L-j)] 28)=Wh from hWh.symm];clear hWh;have hnn:=HEQ.o.1.1;have hb0:Wh.cell? ⟨wo.heap.size,0,none⟩=some (.slice (some ⟨gu,j,none⟩) (N+1) (L-j)):=LH.o.cell (i:=0) (by omega);have hu1:Wh.cell? ⟨gu,j+N,none⟩=some (.int .u32 (up2 (j+N))):=LW.o.u.cell (by omega);have hu2:Wh.cell? ⟨gu,j+n,none⟩=some (.int .u32 (up2 (j+n))):=LW.o.u.cell (by omega);have hv0:Wh.cell? ⟨bv,0,none⟩=some (.slice (some ⟨gv,0,none⟩) N (N+1)):=LW.o.vb.cell (i:=0) (by omega);have hv1:Wh.cell? ⟨gv,n,none⟩=some (.int .u32 (vp n)):=LW.o.v.cell (by omega);have d1:=KD.o.udig (j+N) (by omega);have d2:=KD.o.udig (j+n) (by omega);have d3:=HDV.o n (by omega);have d4:=HVT.o.2;obtain⟨two,htwo⟩:∃ two,two=up2 (j+N)*1000000000+up2 (j+n):=⟨_,rfl⟩;have y1:=IntWalk.u64_in (up2 (j+N)) (by omega);have y2:=IntWalk.u64_in (up2 (j+n)) (by omega)
    have y3:=IntWalk.u64_in (up2 (j+N)*1000000000) (by omega);have y4:=IntWalk.u64_in (up2 (j+N)*1000000000+up2 (j+n)) (by omega);have y5:=IntWalk.u64_in (vp n) (by omega);have y6:two.tdiv (vp n)=two/vp n:=Int.tdiv_eq_ediv_of_nonneg (by omega)
    have y7:¬vp n=0:=by omega
    have y8:0<=two/vp n/\two/vp n<=two:=⟨Int.ediv_nonneg (by omega) (by omega),Int.ediv_le_self _ (by omega)⟩;have y9:=IntWalk.u64_in (two/vp n) (by omega)
    have z1:(N:Int)<((N+1:Nat):Int):=by omega
    have z2:(n:Int)<((N+1:Nat):Int):=by omega
    have z3:(N:Int)<(N:Int)+1:=by omega
    have z4:(n:Int)<(N:Int)+1:=by omega
    have z5:n<N+1:=by omega
    have HTWO:=qh htwo
    have htb:0<=two/\two<=999999999999999999:=by omega
    clear hnn;go_wp2_with fail
    go_quiet (fail);obtain⟨Wd,hWd⟩:∃ Wd,Wd=Wh.drewN nq:=⟨_,rfl⟩
    have cw:∀ p,Wd.cell? p=Wh.cell? p:=by rw[hWd];intro p;rfl
    have LD:=qh (show DivW w Wd gu w1.heap.size gv bv N L M (N+1) up2 qp2 vp from
     have hbD:Below Wh.heap.size Wh Wd:=by rw[hWd];exact bdrewN zk nq
     ⟨LW.o.u.below hbD,LW.o.q.below hbD,LW.o.v.below hbD,LW.o.vb.of_block (hbD.block _ LW.o.vb.lt),LW.o.bel.trans (hbD.mono LW.o.bel.size)⟩)
    have LHD:=qh (show Wd.rowIs wo.heap.size 28 1 (fun _=>.slice (some ⟨gu,j,none⟩) (N+1) (L-j)) by rw[hWd];exact LH.o);have HSD:=qh (show Wd.heap.size=wo.heap.size+1 by rw[hWd];exact HSZ.o.2.2.2.2);rw[<- hWd,<- HTWO.o];have hb0:=(cw _).trans hb0;have hv0:=(cw _).trans hv0;have hv1:=(cw _).trans hv1;clear htwo y1 y2 y3 y4 hu1 hu2 hWd cw LW LH
    go_upto_region 11 with (fail)
    obtain⟨g0,hg0⟩:∃ g0,g0=(if 999999999<two/vp n then 999999999 else two/vp n):=⟨_,rfl⟩;rw[<- hg0]
    have hgm:g0=min (two/vp n) 999999999:=by rw[hg0];split <;> omega
    obtain⟨bg,hbg⟩:∃ bg,bg=Wd.heap.size:=⟨_,rfl⟩;obtain⟨Wg,hWg⟩:∃ Wg,Wg=Wd.alloc (.cells #[.int .u64 g0] 210):=⟨_,rfl⟩;have MW:=qh (show DivW w Wg gu w1.heap.size gv bv N L M (N+1) up2 qp2 vp by rw[hWg];exact⟨LD.o.u.allocd _,LD.o.q.allocd _,LD.o.v.allocd _,LD.o.vb.alloc _,LD.o.bel.alloc LD.o.bel.size _⟩);have MH:=qh (show Wg.rowIs wo.heap.size 28 1 (fun _=>.slice (some ⟨gu,j,none⟩) (N+1) (L-j)) by rw[hWg];exact LHD.o.alloc _);have MG:=qh (show Wg.rowIs bg 210 1 (fun _=>.int .u64 g0) by rw[hWg,hbg];exact row_one Wd _ _);have hbg2:bg=wo.heap.size+1:=hbg.trans HSD.o;rw[show Wd.alloc (.cells #[.int .u64 g0] 210)=Wg from hWg.symm,<- hbg];clear hWg hbg LD LHD hb0 hv0 hv1;have hnn:=HEQ.o.1
    have hq0:headV up2 N j/V<=g0:=by
     have hd:=HH.o;rw[hgm];have tt:=(top_two (f:=fun k=>up2 (j+k)) (m:=n) (fun k hk=>KD.o.udig (j+k) (by omega))).1;have tv:=(top_two (f:=vp) (m:=m) (fun k hk=>HDV.o k (by omega))).2;rw[<- hnn.1,<- HTWO.o] at tt;rw[<- hnn.2,<- hnn.1,HVT.o.1] at tv;have hpm:0<=vp m*(pw m:Int):=Int.mul_nonneg (HDV.o m (by omega)).1 (by omega)
     have hpn:(0:Int)<(pw n:Int):=by have:=pw_pos n;omega
     refine guess_ge (B1:=(pw n:Int)) d4 hpn ?_ hd.1 (by simpa[headV,hnn.1] using tt) hd.2.1 HVV.o.2.2.2;rw[Int.add_mul] at tv
     have e:vp n*(pw n:Int)=vp n*1000000000*(pw m:Int):=by rw[hnn.2,pw_succ,Int.natCast_mul,Int.mul_comm (pw m:Int),<- Int.mul_assoc];rfl
     omega
    have hgv:g0*vp n<=two:=by
     have h1:g0<=two/vp n:=by omega
     exact(Int.le_ediv_iff_mul_le d4).1 h1
    have hgb:0<=g0/\g0<=999999999:=by omega
    have HG0:=qh (And.intro (And.intro hgb hq0) hgv);have hgn:0<=g0*vp n:=Int.mul_nonneg hgb.1 (by omega);have r0:Wg.cell? ⟨bg,0,none⟩=some (.int .u64 g0):=MG.o.cell (i:=0) (by omega);have r1:Wg.cell? ⟨bv,0,none⟩=some (.slice (some ⟨gv,0,none⟩) N (N+1)):=MW.o.vb.cell (i:=0) (by omega);have r2:Wg.cell? ⟨gv,n,none⟩=some (.int .u32 (vp n)):=MW.o.v.cell (by omega);have hnN:=hnN;have y10:=IntWalk.u64_in (g0*vp n) (by omega);have y11:=IntWalk.u64_in (two-g0*vp n) (by omega);have HB2:=qh hbg2;clear hgm hq0 hgv hgb hgn hg0 hnn hbg2;go_wp2_with fail
    go_quiet (fail);obtain⟨Wv,hWv⟩:∃ Wv,Wv=Wg.drewN nq:=⟨_,rfl⟩
    have hbD:Below Wg.heap.size Wg Wv:=by rw[hWv];exact bdrewN zk nq
    have NW:=qh (show DivW w Wv gu w1.heap.size gv bv N L M (N+1) up2 qp2 vp from⟨MW.o.u.below hbD,MW.o.q.below hbD,MW.o.v.below hbD,MW.o.vb.of_block (hbD.block _ MW.o.vb.lt),MW.o.bel.trans (hbD.mono MW.o.bel.size)⟩);have NH:=qh (MH.o.of_block (hbD.block _ MH.o.lt));have NG:=qh (MG.o.of_block (hbD.block _ MG.o.lt));rw[<- hWv];clear hWv hbD r0 r1 r2 MW MH MG y10 y11;go_wp2_with fail
    go_loopw [14] (fun ov wx=>∃ g:Int,((0<=g/\g<=999999999)/\headV up2 N j/V<=g)/\g*vp n<=two/\ov=.int .u64 (two-g*vp n)/\DivW w wx gu w1.heap.size gv bv N L M (N+1) up2 qp2 vp /\
     wx.rowIs wo.heap.size 28 1 (fun _=>.slice (some ⟨gu,j,none⟩) (N+1) (L-j))/\wx.rowIs bg 210 1 (fun _=>.int .u64 g)) (fun ov _=>(1000000000-intOf ov).toNat)
    case atStart=>exact⟨g0,HG0.o.1,HG0.o.2,rfl,NW.o,NH.o,NG.o⟩
    case round =>
     obtain⟨g,hg,hgt,rfl,hW,hH,hG⟩:=hrel;have OW:=qh hW;have OH:=qh hH;have OG:=qh hG;have OB:=qh hg;have hv1:=HDV.o n (by have:=HEQ.o.1;omega);have hgn:0<=g*vp n:=Int.mul_nonneg hg.1.1 hv1.1;obtain⟨ov,hov⟩:∃ ov,ov=two-g*vp n:=⟨_,rfl⟩
     have hob:0<=ov/\ov<=999999999999999999:=by omega
     have HOV:=qh hov;rw[<- hov];have hv2:=HDV.o m (by have:=HEQ.o.1;omega);have hu3:=KD.o.udig (j+m) (by have:=HEQ.o;omega);have hgm:0<=g*vp m/\g*vp m<=999999999*999999999:=⟨Int.mul_nonneg hg.1.1 hv2.1,Int.mul_le_mul hg.1.2 (by omega) hv2.1 (by omega)⟩;obtain⟨gm,hgm2⟩:∃ gm,gm=g*vp m:=⟨_,rfl⟩;rw[<- hgm2] at hgm;have HGM:=qh hgm2;have r0:wr.cell? ⟨bg,0,none⟩=some (.int .u64 g):=hG.cell (i:=0) (by omega);have r1:wr.cell? ⟨bv,0,none⟩=some (.slice (some ⟨gv,0,none⟩) N (N+1)):=hW.vb.cell (i:=0) (by omega);have r2:wr.cell? ⟨wo.heap.size,0,none⟩=some (.slice (some ⟨gu,j,none⟩) (N+1) (L-j)):=hH.cell (i:=0) (by omega);have r3:wr.cell? ⟨gv,n,none⟩=some (.int .u32 (vp n)):=hW.v.cell (by have:=HEQ.o.1;omega);have r4:wr.cell? ⟨gv,m,none⟩=some (.int .u32 (vp m)):=hW.v.cell (by have:=HEQ.o.1;omega);have r5:wr.cell? ⟨gu,j+m,none⟩=some (.int .u32 (up2 (j+m))):=hW.u.cell (by have:=HEQ.o;omega);have fz:=hG.frozen
     have ne1:¬bv=bg:=by have:=HSZ.o;have:=HB2.o;omega
     have ne2:¬gv=bg:=by have:=HSZ.o;have:=HB2.o;omega
     have ne3:¬bg=bv:=fun h=>ne1 h.symm
     have ne4:¬bg=gv:=fun h=>ne2 h.symm
     have xm:(N:Int)-2=(m:Int):=by have:=HEQ.o.1;omega
     have xm3:=IntWalk.i64_in ((N:Int)-2) (by omega)
     have xm4:(m:Int)<(N:Int):=by have:=HEQ.o.1;omega
     have xm5:(m:Int)<(N:Int)+1:=by omega
     have xm6:m<N:=by omega
     have w1':=IntWalk.u64_in (vp m) (by omega);have w2':=IntWalk.u64_in (vp n) (by omega);have w3':=IntWalk.u64_in gm (by omega);have w4':=IntWalk.u64_in (up2 (j+m)) (by omega);have w5':=IntWalk.u64_in g (by omega);clear hW hH hG hg hgt hgn hv2 hu3 hov hgm2;by_cases hlt:ov<1000000000
     ·have w6':=IntWalk.u64_in (ov*1000000000) (by omega);have w7':=IntWalk.u64_in (ov*1000000000+up2 (j+m)) (by have:=KD.o.udig (j+m) (by have:=HEQ.o;omega);omega);have egm:g*vp m=gm:=HGM.o.symm;by_cases hgr:gm>ov*1000000000+up2 (j+m)
      ·have w8':=IntWalk.u64_in (g-1) (by have:=OB.o;have:g≠0:=(fun h=>by rw[HGM.o,h,Int.zero_mul] at hgr;have:=KD.o.udig (j+m) (by have:=HEQ.o;omega);omega);omega);have w9':=IntWalk.u64_in (ov+vp n) (by omega);have hnn:=HEQ.o.1
       have HGD:=qh (show headV up2 N j/V<=g-1 from by
        have tt:=top_three (f:=fun k=>up2 (j+k)) (m:=m) (fun k hk=>KD.o.udig (j+k) (by have:=HEQ.o;omega));have tv:=(top_two (f:=vp) (m:=m) (fun k hk=>HDV.o k (by omega))).2
        have hpm:(0:Int)<(pw m:Int):=by have:=pw_pos m;omega
        rw[<- hnn.2,<- hnn.1,HVT.o.1] at tv;refine guess_down (v1:=vp n) (v2:=vp m) (two:=two) (h2:=up2 (j+m)) hpm tv ?_ OB.o.1.1 (by rw[<- HOV.o,<- HGM.o];omega) OB.o.2 HVV.o.2.2.2
        have e:two=up2 (j+(m+1+1))*1000000000+up2 (j+(m+1)):=by rw[HTWO.o,hnn.1,hnn.2]
        rw[e]
        simpa[headV,hnn.1,hnn.2] using tt)
       have HG1:=qh (show 0<=g-1/\g-1<=999999999/\(g-1)*vp n<=two/\ov+vp n=two-(g-1)*vp n from by
        have h1:=OB.o;have h2:g≠0:=(fun h=>by rw[HGM.o,h,Int.zero_mul] at hgr;have:=KD.o.udig (j+m) (by have:=HEQ.o;omega);omega)
        have h3:(g-1)*vp n=g*vp n-vp n:=by rw[Int.sub_mul,Int.one_mul]
        have h4:=HOV.o
        omega)
       have HNE:=qh (show(gu≠bg/\w1.heap.size≠bg/\gv≠bg/\bv≠bg)/\w.heap.size<=bg/\wo.heap.size≠bg by have:=HSZ.o;have:=HB2.o;have:=KW.o.bel.size;omega);clear hnn;go_wp2_with fail
       go_quiet (fail);go_wp2_with fail
       go_roundw
       case rel=>exact⟨g-1,⟨⟨HG1.o.1,HG1.o.2.1⟩,HGD.o⟩,HG1.o.2.2.1,by rw[HG1.o.2.2.2],(OW.o.drewN nq).setBox HNE.o.1 HNE.o.2.1 _,World.rowIs.setOther (w:=wr.drewN nq) OH.o HNE.o.2.2 _,(World.rowIs.set (w:=wr.drewN nq) OG.o 0 _).congr (fun i hi=>by rw[if_pos (by omega)])⟩
       case measure=>simp[intOf];omega
      ·go_wp2_with fail
       go_quiet (fail);obtain⟨wy,hwy⟩:∃ wy,wy=wr.drewN nq:=⟨_,rfl⟩;rw[<- hwy]
       have hbD:Below wr.heap.size wr wy:=by rw[hwy];exact bdrewN zk nq
       have PW:=qh (show DivW w wy gu w1.heap.size gv bv N L M (N+1) up2 qp2 vp from⟨OW.o.u.below hbD,OW.o.q.below hbD,OW.o.v.below hbD,OW.o.vb.of_block (hbD.block _ OW.o.vb.lt),OW.o.bel.trans (hbD.mono OW.o.bel.size)⟩);have PH:=qh (OH.o.of_block (hbD.block _ OH.o.lt));have PG:=qh (OG.o.of_block (hbD.block _ OG.o.lt));have r0:wy.cell? ⟨bg,0,none⟩=some (.int .u64 g):=PG.o.cell (i:=0) (by omega);clear hwy hbD r1 r2 r3 r4 r5 fz w1' w2' w3' w4' w5' OW OH OG;by_cases hz:g=0
       ·have KS:=qh (KD.o.skip (by omega) (by omega) HVV.o.2.1 HVV.o.2.2.2 (by have:=OB.o.2;omega));subst hz;go_wp2_with fail
        go_roundw
        case rel=>exact⟨j,by omega,rfl,up2,qp2,KS.o,PW.o⟩
        case measure=>simp[intOf];omega
       ·have hgz:(g==0)=false:=by simpa using hz
        go_wp2_with fail
        clear r0 hgz
        go_loopw [15] (fun lv wx=>(∃ v:Value,lv=v)/\∃ g:Int,((0<=g/\g<=999999999)/\headV up2 N j/V<=g)/\DivW w wx gu w1.heap.size gv bv N L M (N+1) up2 qp2 vp /\
         wx.rowIs wo.heap.size 28 1 (fun _=>.slice (some ⟨gu,j,none⟩) (N+1) (L-j))/\wx.rowIs bg 210 1 (fun _=>.int .u64 g)) (fun _ wx=>boxN wx bg)
        case atStart=>exact⟨⟨_,rfl⟩,g,OB.o,PW.o,PH.o,PG.o⟩
        case round =>
         obtain⟨⟨lv,rfl⟩,g3,hg3,hW,hH,hG⟩:=hrel;have QW:=qh hW;have QH:=qh hH;have QG:=qh hG;have QB:=qh hg3;have HQ0:=qh (boxN_row hG);have r0:wr.cell? ⟨bg,0,none⟩=some (.int .u64 g3):=hG.cell (i:=0) (by omega);have r1:wr.cell? ⟨bv,0,none⟩=some (.slice (some ⟨gv,0,none⟩) N (N+1)):=hW.vb.cell (i:=0) (by omega);have r2:wr.cell? ⟨wo.heap.size,0,none⟩=some (.slice (some ⟨gu,j,none⟩) (N+1) (L-j)):=hH.cell (i:=0) (by omega);have hLe:=HEQ.o.2.1
         have hpart:∀ k,0<=part vp N k/\part vp N k<=999999999:=by
          intro k;unfold part;split
          ·have:=HDV.o k (by omega);omega
          ·omega
         have QW':=QW
         have CA:=qh (carry_any 250 #[.pointer (some ⟨wo.heap.size,0,none⟩),.pointer (some ⟨bg,0,none⟩),.pointer (some ⟨bv,0,none⟩)] (N+1) (lessF up2 vp j N g3) (-999999999) 1 wr (by omega) cf_div
          (fun k hk v1 hb1=>divFn v1 wo.heap.size bg bv gu j N (L-j) (N+1) (some ⟨gv,0,none⟩) up2 vp g3 k ((hb1.cell (p:=⟨wo.heap.size,0,none⟩) QH.o.lt).trans r2) ((hb1.cell (p:=⟨bg,0,none⟩) QG.o.lt).trans r0) ((hb1.cell (p:=⟨bv,0,none⟩) QW.o.vb.lt).trans r1)
           ((QW.o.u.below hb1).cell (by omega)) (by omega) ((QW.o.v.less (by omega)).below hb1).rd (by omega) QB.o.1 (by have:=KD.o.udig (j+k) (by omega);omega) (hpart k))
          (fun k hk=>by
           have h1:=KD.o.udig (j+k) (by omega);have h2:=hpart k;have h3:g3*part vp N k<=999999999*999999999:=Int.mul_le_mul QB.o.1.2 h2.2 h2.1 (by omega);have h4:0<=g3*part vp N k:=Int.mul_nonneg QB.o.1.1 h2.1;unfold lessF
           omega) (by omega) (by omega) (by omega) (by omega))
         rw[show((N+1:Nat):Int)=(N:Int)+1 from rfl] at CA;have xK:=IntWalk.i64_in ((N:Int)+1) (by omega);clear hg3 hW hH hG hLe hpart;go_wp2_with fail
         refine CA.o.mono ?_;rintro e w4 ⟨rfl,hO4,hb4⟩;have RW:=qh (show DivW w w4 gu w1.heap.size gv bv N L M (N+1) up2 qp2 vp from⟨QW.o.u.below hb4,QW.o.q.below hb4,QW.o.v.below hb4,QW.o.vb.of_block (hb4.block _ QW.o.vb.lt),QW.o.bel.trans (hb4.mono QW.o.bel.size)⟩);have RH:=qh (QH.o.of_block (hb4.block _ QH.o.lt));have RG:=qh (QG.o.of_block (hb4.block _ QG.o.lt));have RO:=qh hO4;clear hO4 hb4 CA r0 r1 r2 QW QH QG;have r0:w4.cell? ⟨bg,0,none⟩=some (.int .u64 g3):=RG.o.cell (i:=0) (by omega);have r1:w4.cell? ⟨bv,0,none⟩=some (.slice (some ⟨gv,0,none⟩) N (N+1)):=RW.o.vb.cell (i:=0) (by omega);have r2:w4.cell? ⟨wo.heap.size,0,none⟩=some (.slice (some ⟨gu,j,none⟩) (N+1) (L-j)):=RH.o.cell (i:=0) (by omega);have BL:=qh (below_any (some ⟨gu,j,none⟩) (some ⟨gv,0,none⟩) (N+1) (L-j) N (N+1) (fun k=>up2 (j+k)) vp g3 w4 (Rd.at_own RW.o.u (by omega)) (RW.o.v.less (by omega)).rd (fun k hk=>KD.o.udig (j+k) (by omega)) HDV.o (by have:=HEQ.o.2.1;omega) (by have:=HEQ.o.2.1;omega) QB.o.1);rw[show sumB (fun k=>up2 (j+k)) (N+1)=headV up2 N j from rfl,HVT.o.1] at BL;go_wp2_with fail
         refine BL.o.mono ?_;rintro e w5 ⟨rfl,hb5⟩;have SW:=qh (show DivW w w5 gu w1.heap.size gv bv N L M (N+1) up2 qp2 vp from⟨RW.o.u.below hb5,RW.o.q.below hb5,RW.o.v.below hb5,RW.o.vb.of_block (hb5.block _ RW.o.vb.lt),RW.o.bel.trans (hb5.mono RW.o.bel.size)⟩);have SH:=qh (RH.o.of_block (hb5.block _ RH.o.lt));have SG:=qh (RG.o.of_block (hb5.block _ RG.o.lt));have SO:=qh (RO.o.below hb5);clear hb5 BL r0 r1 r2 RW RH RG RO;have r0:w5.cell? ⟨bg,0,none⟩=some (.int .u64 g3):=SG.o.cell (i:=0) (by omega);have r2:w5.cell? ⟨wo.heap.size,0,none⟩=some (.slice (some ⟨gu,j,none⟩) (N+1) (L-j)):=SH.o.cell (i:=0) (by omega);have fz:=SG.o.frozen;have HNE:=qh (show(gu≠bg/\w1.heap.size≠bg/\gv≠bg/\bv≠bg)/\w.heap.size<=bg/\wo.heap.size≠bg/\gu<wr.heap.size by have:=HSZ.o;have:=HB2.o;have:=KW.o.bel.size;have:=HDIS.o;have:=(QW'.o.u.blk rfl).2.2;dsimp only at this;omega);by_cases hlt3:headV up2 N j<V*g3
         ·have hh0:=HH.o.1
          have hgp:1<=g3:=by
           rcases Int.lt_or_le 0 g3 with h | h
           ·omega
           ·have:=QB.o.1.1;rw[show g3=0 by omega,Int.mul_zero] at hlt3;omega
          have w8':=IntWalk.u64_in (g3-1) (by have:=QB.o.1;omega);have HGL:=qh (And.intro (guess_less HVV.o.2.2.2 QB.o.2 hlt3) hgp);clear hh0 hgp;go_wp2_with fail
          go_roundw
          case rel=>exact⟨⟨_,rfl⟩,g3-1,⟨⟨by have:=HGL.o.2;omega,by have:=QB.o.1;omega⟩,HGL.o.1⟩,SW.o.setBox HNE.o.1 HNE.o.2.1 _,World.rowIs.setOther (a:=⟨bg,0,none⟩) SH.o HNE.o.2.2.1 _,(SG.o.set 0 _).congr (fun i hi=>by rw[if_pos (by omega)])⟩
          case measure =>
           have e1:=boxN_row ((SG.o.set 0 (.int .u64 (g3-1))).congr (g:=fun _=>.int .u64 (g3-1)) (fun i hi=>by rw[if_pos (by omega)]));rw[e1,HQ0.o];have:=HGL.o.2;omega
         ·obtain⟨gr1,gr2,gr3⟩:=guess_right HVV.o.2.2.2 QB.o.2 hlt3;have hLe:=HEQ.o.2.1
          have hsum:sumB (cD (lessF up2 vp j N g3)) (N+1)=headV up2 N j-V*g3:=by
           have h1:=lessF_sum up2 vp j N g3;rw[HVT.o.1] at h1;rw[(cS_fits (by rw[h1];exact gr2) (by rw[h1,pw_succ,Int.natCast_mul];have:=HVV.o.2.1;omega)).2,h1]
          have ST:=qh (KD.o.step (g:=g3) (r:=cD (lessF up2 vp j N g3)) (by omega) (by omega) HVV.o.2.1 HVV.o.2.2.2 (by have:=QB.o.1;omega) (cD_Dig _ _) hsum gr3);obtain⟨vc,w6,hrun,hown6,hgrow⟩:=copy_own (r:=cD (lessF up2 vp j N g3)) SW.o.u (i:=j) (m:=N+1) (by omega) (by omega) SO.o.rd 3 (L-j) (N+1);have HO6:=qh hown6;have HG6:=qh hgrow;have w7':=IntWalk.u32_in g3 (by have:=QB.o.1;omega);have hsz6:=SW.o.bel.size;have TG:=qh (SG.o.of_block (hgrow.block bg SG.o.lt (fun e=>by have:=HNE.o.1.1;cases e;contradiction)));have TQ:=qh (SW.o.q.keep fun p hp=>hgrow.block _ (SW.o.q.blk hp).2.2 (fun e=>by have:=HDIS.o;have:=(KW.o.u.blk rfl).2.2;cases hp;cases e;have h9:=HDIS.o.2.1;dsimp only at *;omega));have r5:w6.cell? ⟨bg,0,none⟩=some (.int .u64 g3):=TG.o.cell (i:=0) (by omega);obtain⟨vo,r6⟩:∃ vo,w6.cell? ⟨w1.heap.size,j,none⟩=some vo:=⟨_,TQ.o.cell (by omega)⟩;have fq:=TQ.o.fz;clear hown6 hgrow gr1 gr2 gr3 hsum hLe
          have HF:=qh (show DivW w (w6.setCell ⟨w1.heap.size,j,none⟩ (.int .u32 g3)) gu w1.heap.size gv bv N L M (N+1) (splice up2 j (N+1) (cD (lessF up2 vp j N g3))) (upd qp2 j g3) vp from by
           have hd:=HDIS.o
           have hv6:=SW.o.v.keep (w':=w6) fun p hp=>HG6.o.block _ (SW.o.v.blk hp).2.2 (fun e=>by cases hp;cases e;exact hd.1.1 rfl)
           have hb6:=SW.o.vb.of_block (w':=w6) (HG6.o.block _ SW.o.vb.lt (fun e=>by cases e;exact hd.1.2.1 rfl));have hl6:Below w.heap.size w w6:=SW.o.bel.grown HG6.o SW.o.bel.size (fun k hk=>by cases hk;exact(SW.o.u.blk rfl).2.1)
           refine⟨HO6.o.keep fun p hp=>Below.heap_setCell _ _ _ _ (by cases hp;dsimp only;omega),TQ.o.put (by omega) (by have:=QB.o.1;omega),hv6.keep fun p hp=>Below.heap_setCell _ _ _ _ (by cases hp;dsimp only;omega),hb6.setOther (by dsimp only;omega) _,hl6.setCell (p:=⟨w1.heap.size,j,none⟩) (TQ.o.blk rfl).2.1 _⟩)
          go_wp2_with fail
          go_roundw
          case rel=>exact⟨j,by omega,rfl,_,_,ST.o,HF.o⟩
          case measure=>simp[intOf];omega
     ·have hge:¬ov<1000000000:=hlt;have hdb:decide (ov<1000000000)=false:=zo hlt;go_wp2_with fail
      go_quiet (fail);obtain⟨wy,hwy⟩:∃ wy,wy=wr.drewN nq:=⟨_,rfl⟩;rw[<- hwy]
      have hbD:Below wr.heap.size wr wy:=by rw[hwy];exact bdrewN zk nq
      have PW:=qh (show DivW w wy gu w1.heap.size gv bv N L M (N+1) up2 qp2 vp from⟨OW.o.u.below hbD,OW.o.q.below hbD,OW.o.v.below hbD,OW.o.vb.of_block (hbD.block _ OW.o.vb.lt),OW.o.bel.trans (hbD.mono OW.o.bel.size)⟩);have PH:=qh (OH.o.of_block (hbD.block _ OH.o.lt));have PG:=qh (OG.o.of_block (hbD.block _ OG.o.lt));have r0:wy.cell? ⟨bg,0,none⟩=some (.int .u64 g):=PG.o.cell (i:=0) (by omega);clear hwy hbD r1 r2 r3 r4 r5 fz w1' w2' w3' w4' w5' OW OH OG;by_cases hz:g=0
      ·have KS:=qh (KD.o.skip (by omega) (by omega) HVV.o.2.1 HVV.o.2.2.2 (by have:=OB.o.2;omega));subst hz;go_wp2_with fail
       go_roundw
       case rel=>exact⟨j,by omega,rfl,up2,qp2,KS.o,PW.o⟩
       case measure=>simp[intOf];omega
      ·have hgz:(g==0)=false:=by simpa using hz
       go_wp2_with fail
       clear r0 hgz
       go_loopw [15] (fun lv wx=>(∃ v:Value,lv=v)/\∃ g:Int,((0<=g/\g<=999999999)/\headV up2 N j/V<=g)/\DivW w wx gu w1.heap.size gv bv N L M (N+1) up2 qp2 vp /\
        wx.rowIs wo.heap.size 28 1 (fun _=>.slice (some ⟨gu,j,none⟩) (N+1) (L-j))/\wx.rowIs bg 210 1 (fun _=>.int .u64 g)) (fun _ wx=>boxN wx bg)
       case atStart=>exact⟨⟨_,rfl⟩,g,OB.o,PW.o,PH.o,PG.o⟩
       case round =>
        obtain⟨⟨lv,rfl⟩,g3,hg3,hW,hH,hG⟩:=hrel;have QW:=qh hW;have QH:=qh hH;have QG:=qh hG;have QB:=qh hg3;have HQ0:=qh (boxN_row hG);have r0:wr.cell? ⟨bg,0,none⟩=some (.int .u64 g3):=hG.cell (i:=0) (by omega);have r1:wr.cell? ⟨bv,0,none⟩=some (.slice (some ⟨gv,0,none⟩) N (N+1)):=hW.vb.cell (i:=0) (by omega);have r2:wr.cell? ⟨wo.heap.size,0,none⟩=some (.slice (some ⟨gu,j,none⟩) (N+1) (L-j)):=hH.cell (i:=0) (by omega);have hLe:=HEQ.o.2.1
        have hpart:∀ k,0<=part vp N k/\part vp N k<=999999999:=by
         intro k;unfold part;split
         ·have:=HDV.o k (by omega);omega
         ·omega
        have QW':=QW
        have CA:=qh (carry_any 250 #[.pointer (some ⟨wo.heap.size,0,none⟩),.pointer (some ⟨bg,0,none⟩),.pointer (some ⟨bv,0,none⟩)] (N+1) (lessF up2 vp j N g3) (-999999999) 1 wr (by omega) cf_div
         (fun k hk v1 hb1=>divFn v1 wo.heap.size bg bv gu j N (L-j) (N+1) (some ⟨gv,0,none⟩) up2 vp g3 k ((hb1.cell (p:=⟨wo.heap.size,0,none⟩) QH.o.lt).trans r2) ((hb1.cell (p:=⟨bg,0,none⟩) QG.o.lt).trans r0) ((hb1.cell (p:=⟨bv,0,none⟩) QW.o.vb.lt).trans r1)
          ((QW.o.u.below hb1).cell (by omega)) (by omega) ((QW.o.v.less (by omega)).below hb1).rd (by omega) QB.o.1 (by have:=KD.o.udig (j+k) (by omega);omega) (hpart k))
         (fun k hk=>by
          have h1:=KD.o.udig (j+k) (by omega);have h2:=hpart k;have h3:g3*part vp N k<=999999999*999999999:=Int.mul_le_mul QB.o.1.2 h2.2 h2.1 (by omega);have h4:0<=g3*part vp N k:=Int.mul_nonneg QB.o.1.1 h2.1;unfold lessF
          omega) (by omega) (by omega) (by omega) (by omega))
        rw[show((N+1:Nat):Int)=(N:Int)+1 from rfl] at CA;have xK:=IntWalk.i64_in ((N:Int)+1) (by omega);clear hg3 hW hH hG hLe hpart;go_wp2_with fail
        refine CA.o.mono ?_;rintro e w4 ⟨rfl,hO4,hb4⟩;have RW:=qh (show DivW w w4 gu w1.heap.size gv bv N L M (N+1) up2 qp2 vp from⟨QW.o.u.below hb4,QW.o.q.below hb4,QW.o.v.below hb4,QW.o.vb.of_block (hb4.block _ QW.o.vb.lt),QW.o.bel.trans (hb4.mono QW.o.bel.size)⟩);have RH:=qh (QH.o.of_block (hb4.block _ QH.o.lt));have RG:=qh (QG.o.of_block (hb4.block _ QG.o.lt));have RO:=qh hO4;clear hO4 hb4 CA r0 r1 r2 QW QH QG;have r0:w4.cell? ⟨bg,0,none⟩=some (.int .u64 g3):=RG.o.cell (i:=0) (by omega);have r1:w4.cell? ⟨bv,0,none⟩=some (.slice (some ⟨gv,0,none⟩) N (N+1)):=RW.o.vb.cell (i:=0) (by omega);have r2:w4.cell? ⟨wo.heap.size,0,none⟩=some (.slice (some ⟨gu,j,none⟩) (N+1) (L-j)):=RH.o.cell (i:=0) (by omega);have BL:=qh (below_any (some ⟨gu,j,none⟩) (some ⟨gv,0,none⟩) (N+1) (L-j) N (N+1) (fun k=>up2 (j+k)) vp g3 w4 (Rd.at_own RW.o.u (by omega)) (RW.o.v.less (by omega)).rd (fun k hk=>KD.o.udig (j+k) (by omega)) HDV.o (by have:=HEQ.o.2.1;omega) (by have:=HEQ.o.2.1;omega) QB.o.1);rw[show sumB (fun k=>up2 (j+k)) (N+1)=headV up2 N j from rfl,HVT.o.1] at BL;go_wp2_with fail
        refine BL.o.mono ?_;rintro e w5 ⟨rfl,hb5⟩;have SW:=qh (show DivW w w5 gu w1.heap.size gv bv N L M (N+1) up2 qp2 vp from⟨RW.o.u.below hb5,RW.o.q.below hb5,RW.o.v.below hb5,RW.o.vb.of_block (hb5.block _ RW.o.vb.lt),RW.o.bel.trans (hb5.mono RW.o.bel.size)⟩);have SH:=qh (RH.o.of_block (hb5.block _ RH.o.lt));have SG:=qh (RG.o.of_block (hb5.block _ RG.o.lt));have SO:=qh (RO.o.below hb5);clear hb5 BL r0 r1 r2 RW RH RG RO;have r0:w5.cell? ⟨bg,0,none⟩=some (.int .u64 g3):=SG.o.cell (i:=0) (by omega);have r2:w5.cell? ⟨wo.heap.size,0,none⟩=some (.slice (some ⟨gu,j,none⟩) (N+1) (L-j)):=SH.o.cell (i:=0) (by omega);have fz:=SG.o.frozen;have HNE:=qh (show(gu≠bg/\w1.heap.size≠bg/\gv≠bg/\bv≠bg)/\w.heap.size<=bg/\wo.heap.size≠bg/\gu<wr.heap.size by have:=HSZ.o;have:=HB2.o;have:=KW.o.bel.size;have:=HDIS.o;have:=(QW'.o.u.blk rfl).2.2;dsimp only at this;omega);by_cases hlt3:headV up2 N j<V*g3
        ·have hh0:=HH.o.1
         have hgp:1<=g3:=by
          rcases Int.lt_or_le 0 g3 with h | h
          ·omega
          ·have:=QB.o.1.1;rw[show g3=0 by omega,Int.mul_zero] at hlt3;omega
         have w8':=IntWalk.u64_in (g3-1) (by have:=QB.o.1;omega);have HGL:=qh (And.intro (guess_less HVV.o.2.2.2 QB.o.2 hlt3) hgp);clear hh0 hgp;go_wp2_with fail
         go_roundw
         case rel=>exact⟨⟨_,rfl⟩,g3-1,⟨⟨by have:=HGL.o.2;omega,by have:=QB.o.1;omega⟩,HGL.o.1⟩,SW.o.setBox HNE.o.1 HNE.o.2.1 _,World.rowIs.setOther (a:=⟨bg,0,none⟩) SH.o HNE.o.2.2.1 _,(SG.o.set 0 _).congr (fun i hi=>by rw[if_pos (by omega)])⟩
         case measure =>
          have e1:=boxN_row ((SG.o.set 0 (.int .u64 (g3-1))).congr (g:=fun _=>.int .u64 (g3-1)) (fun i hi=>by rw[if_pos (by omega)]));rw[e1,HQ0.o];have:=HGL.o.2;omega
        ·obtain⟨gr1,gr2,gr3⟩:=guess_right HVV.o.2.2.2 QB.o.2 hlt3;have hLe:=HEQ.o.2.1
         have hsum:sumB (cD (lessF up2 vp j N g3)) (N+1)=headV up2 N j-V*g3:=by
          have h1:=lessF_sum up2 vp j N g3;rw[HVT.o.1] at h1;rw[(cS_fits (by rw[h1];exact gr2) (by rw[h1,pw_succ,Int.natCast_mul];have:=HVV.o.2.1;omega)).2,h1]
         have ST:=qh (KD.o.step (g:=g3) (r:=cD (lessF up2 vp j N g3)) (by omega) (by omega) HVV.o.2.1 HVV.o.2.2.2 (by have:=QB.o.1;omega) (cD_Dig _ _) hsum gr3);obtain⟨vc,w6,hrun,hown6,hgrow⟩:=copy_own (r:=cD (lessF up2 vp j N g3)) SW.o.u (i:=j) (m:=N+1) (by omega) (by omega) SO.o.rd 3 (L-j) (N+1);have HO6:=qh hown6;have HG6:=qh hgrow;have w7':=IntWalk.u32_in g3 (by have:=QB.o.1;omega);have hsz6:=SW.o.bel.size;have TG:=qh (SG.o.of_block (hgrow.block bg SG.o.lt (fun e=>by have:=HNE.o.1.1;cases e;contradiction)));have TQ:=qh (SW.o.q.keep fun p hp=>hgrow.block _ (SW.o.q.blk hp).2.2 (fun e=>by have:=HDIS.o;have:=(KW.o.u.blk rfl).2.2;cases hp;cases e;have h9:=HDIS.o.2.1;dsimp only at *;omega));have r5:w6.cell? ⟨bg,0,none⟩=some (.int .u64 g3):=TG.o.cell (i:=0) (by omega);obtain⟨vo,r6⟩:∃ vo,w6.cell? ⟨w1.heap.size,j,none⟩=some vo:=⟨_,TQ.o.cell (by omega)⟩;have fq:=TQ.o.fz;clear hown6 hgrow gr1 gr2 gr3 hsum hLe
         have HF:=qh (show DivW w (w6.setCell ⟨w1.heap.size,j,none⟩ (.int .u32 g3)) gu w1.heap.size gv bv N L M (N+1) (splice up2 j (N+1) (cD (lessF up2 vp j N g3))) (upd qp2 j g3) vp from by
          have hd:=HDIS.o
          have hv6:=SW.o.v.keep (w':=w6) fun p hp=>HG6.o.block _ (SW.o.v.blk hp).2.2 (fun e=>by cases hp;cases e;exact hd.1.1 rfl)
          have hb6:=SW.o.vb.of_block (w':=w6) (HG6.o.block _ SW.o.vb.lt (fun e=>by cases e;exact hd.1.2.1 rfl));have hl6:Below w.heap.size w w6:=SW.o.bel.grown HG6.o SW.o.bel.size (fun k hk=>by cases hk;exact(SW.o.u.blk rfl).2.1)
          refine⟨HO6.o.keep fun p hp=>Below.heap_setCell _ _ _ _ (by cases hp;dsimp only;omega),TQ.o.put (by omega) (by have:=QB.o.1;omega),hv6.keep fun p hp=>Below.heap_setCell _ _ _ _ (by cases hp;dsimp only;omega),hb6.setOther (by dsimp only;omega) _,hl6.setCell (p:=⟨w1.heap.size,j,none⟩) (TQ.o.blk rfl).2.1 _⟩)
         go_wp2_with fail
         go_roundw
         case rel=>exact⟨j,by omega,rfl,_,_,ST.o,HF.o⟩
         case measure=>simp[intOf];omega
end Limb
namespace Book
open Go.RowKit Go.Sort Go.Fresh Limb
theorem isT_eq (j:Nat) (w:World):(binOp BinOp.eql 35 (.agg #[.int .u16 ((j:Int)+2),.int .u16 0,.int .u16 0,.int .u16 0]) (.agg #[.int .u16 ((j:Int)+2),.int .u16 0,.int .u16 0,.int .u16 0])).run Tryz.prog w=.ok (.bool true) w:=by
 have h:=Mono.run_eq4 ((j:Int)+2) 0 0 0 ((j:Int)+2) 0 0 0 w;have e:binOp BinOp.eql 35 (Mono.mv ((j:Int)+2) 0 0 0) (Mono.mv ((j:Int)+2) 0 0 0)=(do pure (.bool (<- Op.equal 35 (Mono.mv ((j:Int)+2) 0 0 0) (Mono.mv ((j:Int)+2) 0 0 0)))):=rfl;show(binOp BinOp.eql 35 (Mono.mv ((j:Int)+2) 0 0 0) (Mono.mv ((j:Int)+2) 0 0 0)).run Tryz.prog w=_;rw[e,Sem.run_bind];rw[show(Op.equal 35 (Mono.mv ((j:Int)+2) 0 0 0) (Mono.mv ((j:Int)+2) 0 0 0)).run Tryz.prog w=_ from h];simp
theorem isT_any (j:Nat) (w:World) (h:j<=30000):Calls Tryz.prog 134 #[.agg #[.bool false,.slice none 0 0,.bool false,.slice none 0 0,.int .u16 ((j:Int)+2),.int .u16 0,.int .u16 0,.int .u16 0],.int .i64 ((j:Int)+1)] w fun e w'=>e=.returned (.bool true)/\Below w.heap.size w w':=by
 have e1:=IntWalk.i64_in ((j:Int)+1) (by omega);have e2:=IntWalk.i64_in (1+((j:Int)+1)) (by omega);have e3:=IntWalk.u16_in (1+((j:Int)+1)) (by omega);have e4:((j:Int)+1).tmod 60000=(j:Int)+1:=Int.tmod_eq_of_lt (by omega) (by omega);have e5:((j:Int)+1).tdiv 60000=0:=Int.tdiv_eq_zero_of_lt (by omega) (by omega)
 have e6:1+((j:Int)+1)=(j:Int)+2:=by omega
 have hqe:=isT_eq j;go_enter Tryz.func134,Tryz.ntmps134;go_wp2_with fail
 go_ret;exact⟨rfl,zk.alloc zj _⟩
theorem mark8 {w:World} {base g n cap j:Nat} (h:OwnT w base (some ⟨g,0,none⟩) n cap (mcf j)) {t:Nat} (ht:t<n) :
  w.cell? ⟨g,t*8,none⟩=some (.bool false)/\w.cell? ⟨g,t*8+1,none⟩=some (.slice none 0 0)/\w.cell? ⟨g,t*8+2,none⟩=some (.bool false)/\w.cell? ⟨g,t*8+3,none⟩=some (.slice none 0 0)/\w.cell? ⟨g,t*8+4,none⟩=some (.int .u16 ((j:Int)+2)) /\
  w.cell? ⟨g,t*8+5,none⟩=some (.int .u16 0)/\w.cell? ⟨g,t*8+6,none⟩=some (.int .u16 0)/\w.cell? ⟨g,t*8+7,none⟩=some (.int .u16 0):=by
 have k:∀ r,r<8->w.cell? ⟨g,t*8+r,none⟩=some (mc j r):=fun r hr=>by
  rw[h.cell (i:=t*8+r) (by omega)];unfold mcf;rw[show(t*8+r)%8=r by omega]
 exact⟨k 0 (by decide),k 1 (by decide),k 2 (by decide),k 3 (by decide),k 4 (by decide),k 5 (by decide),k 6 (by decide),k 7 (by decide)⟩
theorem lookT_any (b vb k cap:Nat) (A LA:Nat->Option Addr) (N C LC:Nat->Nat) (f:Nat->Value) (ν:Nat->Nat) (w:World) (hk:k<=30000) (hν:∀ j,j<k->ν j<=30000) (hB:w.rowIs b 59 13 f) (hf:f 6=.slice (some ⟨vb,0,none⟩) k cap)
  (hA:ArrT ν w vb k A N C (fun j=>.slice (LA j) (N j+40) (LC j))) (hO:∀ j,j<k->OwnT w 0 (A j) (N j) (C j) (mcf (ν j))) (hL:∀ j,j<k->OwnT w 0 (LA j) (N j+40) (LC j) (mcf (ν j))) (hN:∀ j,j<k->N j<=100000000) :
  Calls Tryz.prog 74 #[.pointer (some ⟨b,0,none⟩)] w fun e w'=>e=.returned (.bool true)/\Below w.heap.size w w':=by
 have HF:=qh hf;have HNU:=qh hν;have HB:=qh hB;have HA:=qh hA;have HO:=qh hO;have HL:=qh hL;have HN:=qh hN;clear hB hA hO hL hN hf hν;go_enter Tryz.func74,Tryz.ntmps74;go_wp2_with fail
 go_loopw [3] (fun v wr=>∃ i:Nat,i<=k/\v=.int .i64 i/\Below w.heap.size w wr) (fun v _=>k-(intOf v).toNat)
 case atStart=>exact⟨0,by omega,rfl,zk⟩
 case round =>
  obtain⟨w1,rfl⟩:∃ w1,w1=wr:=⟨_,rfl⟩;obtain⟨i,hik,rfl,hG⟩:=hrel;have KG:=qh hG;have KB:=qh (HB.o.of_block (hG.block _ HB.o.lt));have KA:=qh (HA.o.keep (hG.block _ HA.o.lt));clear hG
  have b2:w1.cell? ⟨b,6,none⟩=some (.slice (some ⟨vb,0,none⟩) k cap):=by rw[<- HF.o];exact KB.o.cell (i:=6) (by omega)
  by_cases hi:i<k
  ·obtain⟨a0,a1,a2,-,hvb⟩:=KA.o.cells hi;have O1:=(HO.o i hi).below KG.o;have L1:=(HL.o i hi).below KG.o;obtain⟨n,hn⟩:∃ n,n=N i:=⟨_,rfl⟩;obtain⟨ai,ha⟩:∃ ai,ai=A i:=⟨_,rfl⟩;obtain⟨ci,hc⟩:∃ ci,ci=C i:=⟨_,rfl⟩;obtain⟨lc,hlc⟩:∃ lc,lc=LC i:=⟨_,rfl⟩;obtain⟨gq,hlg⟩:=L1.some_of_pos (by omega);rw[<- hlc,hlg,<- hn] at L1 a1;rw[<- ha,<- hn,<- hc] at a0 O1
   have hnb:n<=100000000:=by rw[hn];exact HN.o i hi
   have LO:=qh O1;have LL:=qh L1;obtain⟨W,hW⟩:∃ W,W=w1.alloc (.cells #[.slice ai n ci,.slice (some ⟨gq,0,none⟩) (n+40) lc,.int .i64 ((ν i:Int)+1)] 120):=⟨_,rfl⟩
   have R:=World.rowIs_alloc w1 #[Value.slice ai n ci,Value.slice (some ⟨gq,0,none⟩) (n+40) lc,Value.int IntKind.i64 ((ν i:Int)+1)] 120 (hcell ai n ci (.slice (some ⟨gq,0,none⟩) (n+40) lc) ((ν i:Int)+1)) (fun q hq=>by
     match q,hq with
     | 0,_=>rfl
     | 1,_=>rfl
     | 2,_=>rfl)
   rw[<- hW] at R;have WB:=qh (show Below w1.heap.size w1 W by rw[hW];exact zk.alloc zj _);have WR:=qh (show W.rowIs w1.heap.size 120 3 (hcell ai n ci (.slice (some ⟨gq,0,none⟩) (n+40) lc) ((ν i:Int)+1)) from R);have HW:=qh hW;have e40:=IntWalk.i64_in ((n:Int)+40) (by omega)
   have ec:((n+40:Nat):Int)=(n:Int)+40:=by omega
   clear ha hn hc hlc O1 L1 R hW hlg
   go_upto_region 5 with (fail)
   rw[show(w1.alloc (.cells #[.slice ai n ci,.slice (some ⟨gq,0,none⟩) (n+40) lc,.int .i64 ((ν i:Int)+1)] 120))=W from HW.o.symm];have h0:W.cell? ⟨w1.heap.size,0,none⟩=some (.slice ai n ci):=WR.o.cell (i:=0) (by omega);have h1:W.cell? ⟨w1.heap.size,1,none⟩=some (.slice (some ⟨gq,0,none⟩) (n+40) lc):=WR.o.cell (i:=1) (by omega);have h2:W.cell? ⟨w1.heap.size,2,none⟩=some (.int .i64 ((ν i:Int)+1)):=WR.o.cell (i:=2) (by omega);go_wp2_with fail
   have HI1:=qh (HNU.o i hi);have HE:=qh (And.intro e40 ec);clear h0 h1 h2;go_loopw [5] (fun v wr=>∃ t:Nat,t<=n+40/\v=.int .i64 t/\Below W.heap.size W wr) (fun v _=>n+40-(intOf v).toNat)
   case atStart=>exact⟨0,by omega,rfl,zk⟩
   case round =>
    obtain⟨t,htn,rfl,hm⟩:=hrel;have HM:=qh hm;clear hm
    have HWC:=qh (fun (w':World) (hb:Below wr.heap.size wr w')=>(show w'.cell? ⟨w1.heap.size,0,none⟩=some (.slice ai n ci)/\w'.cell? ⟨w1.heap.size,1,none⟩=some (.slice (some ⟨gq,0,none⟩) (n+40) lc)/\w'.cell? ⟨w1.heap.size,2,none⟩=some (.int .i64 ((ν i:Int)+1)) from by
     have hb1:Below W.heap.size W w':=HM.o.trans (hb.mono HM.o.size);have R:=WR.o.of_block (hb1.block _ WR.o.lt)
     exact⟨R.cell (i:=0) (by omega),R.cell (i:=1) (by omega),R.cell (i:=2) (by omega)⟩))
    obtain⟨g0,g1,g2⟩:=HWC.o wr zk;by_cases ht:t<n+40
    ·have HX1:=qh (show t<n+40 from ht);have HLC:=qh (fun (w':World) (hb:Below wr.heap.size wr w')=>mark8 ((LL.o.below WB.o).below (HM.o.trans (hb.mono HM.o.size))) ht)
     have x1:(t:Int)<(n:Int)+40:=by omega
     by_cases ht2:t<n
     ·obtain⟨g,rfl⟩:=LO.o.some_of_pos (by omega);have HX2:=qh (show t<n from ht2);have HLA:=qh (fun (w':World) (hb:Below wr.heap.size wr w')=>mark8 ((LO.o.below WB.o).below (HM.o.trans (hb.mono HM.o.size))) ht2)
      have x2:(t:Int)<(n:Int):=by omega
      go_wp2_with fail
      refine FS.wp_region_fresh 26 [] (FS.spOf [(7,FS.Sp.know (.bool true)),(23,FS.Sp.know (.bool true))])
       (fun w'=>Below wr.heap.size wr w') (by kernel_rfl) (by kernel_rfl) (by kernel_rfl)
       (FS.spOf_cons (FS.Sp.know_keeps _ _) (FS.spOf_cons (FS.Sp.know_keeps _ _) (FS.spOf_nil))) (fun _ _ h hb=>h.trans (hb.mono h.size)) (zk.drew) ?_
      simp only[zu,zi,ze,zx,zy,zv,zw]
      iterate 7
       refine FS.wpF_reads rfl rfl rfl ?_ (fun w' hw'=>?_) ?_;rotate_left
       ·have hb':=hw'.world;have hs:=HWC.o w' hb';have hx:=HX1.o;obtain⟨hc0,hc1,hc2,hc3,hc4,hc5,hc6,hc7⟩:=HLC.o w' hb';clear hw';go_simp
        try rfl
       conv=>arg 10;simp only[Act.put,zq0,zq1,zq2]
      refine FS.wpF_spec rfl rfl rfl (fun w' hw'=>?_) ?_
      ·have hb':=hw'.world;refine FS.gives_of (FS.PK (.bool true)) ?_ (fun _ _ h=>h.post);go_simp;have CT:=isT_any (ν i) w' HI1.o;refine CT.mono ?_;rintro e w'' ⟨rfl,hb⟩;exact⟨_,rfl,rfl,hb⟩
      rintro _ rfl
      conv=>arg 10;simp only[Act.put,zq0,zq1,zq2]
      iterate 2
       refine FS.wpF_reads rfl rfl rfl ?_ (fun w' hw'=>?_) ?_;rotate_left
       ·have hb':=hw'.world;skip;clear hw';go_simp
        try rfl
       conv=>arg 10;simp only[Act.put,zq0,zq1,zq2]
      iterate 13
       refine FS.wpF_readsG (by rfl) rfl rfl ?_ (fun w' hw'=>?_) ?_;rotate_left
       ·have hb':=hw'.world;have hs:=HWC.o w' hb';have hx:=HX2.o;obtain⟨hc0,hc1,hc2,hc3,hc4,hc5,hc6,hc7⟩:=HLA.o w' hb';clear hw';go_simp
        try rfl
       conv=>arg 10;simp only[Act.put,zq0,zq1,zq2]
      refine FS.wpF_gspec (by rfl) rfl rfl (fun w' hw'=>?_) ?_
      ·have hb':=hw'.world;refine FS.gives_of (FS.PK (.bool true)) ?_ (fun _ _ h=>h.post);go_simp;have CT:=isT_any (ν i) w' HI1.o;refine CT.mono ?_;rintro e w'' ⟨rfl,hb⟩;exact⟨_,rfl,rfl,hb⟩
      rintro _ rfl
      conv=>arg 10;simp only[Act.put,zq0,zq1,zq2]
      iterate 2
       refine FS.wpF_readsG (by rfl) rfl rfl ?_ (fun w' hw'=>?_) ?_;rotate_left
       ·have hb':=hw'.world;skip;clear hw';go_simp
        try rfl
       conv=>arg 10;simp only[Act.put,zq0,zq1,zq2]
      refine FS.wpF_nil (fun w101 hb hF=>?_);clear hF;have BWR:=qh hb;clear hb;have HM:=qh (HM.o.trans (BWR.o.mono HM.o.size));go_wp2_with fail
      go_roundw
      case rel=>exact⟨t+1,by omega,by go_num,HM.o⟩
      case measure=>simp[intOf];omega
     ·have HX2:=qh (show ¬(t:Int)<(n:Int) by omega)
      have x2:¬(t:Int)<(n:Int):=by omega
      go_wp2_with fail
      refine FS.wp_region_fresh 26 [] (FS.spOf [(7,FS.Sp.know (.bool true))])
       (fun w'=>Below wr.heap.size wr w') (by kernel_rfl) (by kernel_rfl) (by kernel_rfl)
       (FS.spOf_cons (FS.Sp.know_keeps _ _) (FS.spOf_nil)) (fun _ _ h hb=>h.trans (hb.mono h.size)) (zk.drew) ?_
      simp only[zu,zi,ze,zx,zy,zv,zw]
      iterate 7
       refine FS.wpF_reads rfl rfl rfl ?_ (fun w' hw'=>?_) ?_;rotate_left
       ·have hb':=hw'.world;have hs:=HWC.o w' hb';have hx:=HX1.o;obtain⟨hc0,hc1,hc2,hc3,hc4,hc5,hc6,hc7⟩:=HLC.o w' hb';clear hw';go_simp
        try rfl
       conv=>arg 10;simp only[Act.put,zq0,zq1,zq2]
      refine FS.wpF_spec rfl rfl rfl (fun w' hw'=>?_) ?_
      ·have hb':=hw'.world;refine FS.gives_of (FS.PK (.bool true)) ?_ (fun _ _ h=>h.post);go_simp;have CT:=isT_any (ν i) w' HI1.o;refine CT.mono ?_;rintro e w'' ⟨rfl,hb⟩;exact⟨_,rfl,rfl,hb⟩
      rintro _ rfl
      conv=>arg 10;simp only[Act.put,zq0,zq1,zq2]
      iterate 2
       refine FS.wpF_reads rfl rfl rfl ?_ (fun w' hw'=>?_) ?_;rotate_left
       ·have hb':=hw'.world;skip;clear hw';go_simp
        try rfl
       conv=>arg 10;simp only[Act.put,zq0,zq1,zq2]
      iterate 6
       refine FS.wpF_readsG (by rfl) rfl rfl ?_ (fun w' hw'=>?_) ?_;rotate_left
       ·have hb':=hw'.world;have hs:=HWC.o w' hb';have hx:=HX2.o;clear hw';go_simp
        try rfl
       conv=>arg 10;simp only[Act.put,zq0,zq1,zq2]
      iterate 9
       refine FS.wpF_skip (by rfl) rfl ?_
       conv=>arg 10;simp only[Act.put,zq0,zq1,zq2]
      refine FS.wpF_readsG (by rfl) rfl rfl ?_ (fun w' hw'=>?_) ?_;rotate_left
      ·have hb':=hw'.world;skip;clear hw';go_simp
       try rfl
      conv=>arg 10;simp only[Act.put,zq0,zq1,zq2]
      refine FS.wpF_nil (fun w101 hb hF=>?_);clear hF;have BWR:=qh hb;clear hb;have HM:=qh (HM.o.trans (BWR.o.mono HM.o.size));go_wp2_with fail
      go_roundw
      case rel=>exact⟨t+1,by omega,by go_num,HM.o⟩
      case measure=>simp[intOf];omega
    ·have x1:¬(t:Int)<(n:Int)+40:=by omega
     obtain rfl:t=n+40:=by omega
     go_wp2_with fail
     go_roundw
     case rel=>exact⟨i+1,by omega,by go_num,by have h:=KG.o.trans (WB.o.mono KG.o.size);exact h.trans (HM.o.mono h.size)⟩
     case measure=>simp[intOf];omega
  ·obtain rfl:i=k:=by omega
   go_wp2_with fail
   go_ret;exact⟨rfl,KG.o⟩
end Book
namespace Limb
open Go.RowKit Go.Sort Go.Fresh
theorem top_any (a:Option Addr) (n c m:Nat) (o:Nat->Int) (w:World) (hx:Rd w a n o) (dx:Dig o n) (hn:n<=200000000) (hm:m<n) :
  Calls Tryz.prog 257 #[.slice a n c,.int .i64 ((m:Int)+1)] w fun e w'=>e=.returned (.int .u64 (topF o n m))/\w'=w:=by
 obtain⟨b,off,rfl,hc⟩:=hx.cells (by omega);have c1:=hc m hm;have d1:=dx m hm;have w1:=IntWalk.u64_in (o m) (by omega);by_cases h:m+1<n
 ·have c2:=hc (m+1) h;have d2:=dx (m+1) h;have w2:=IntWalk.u64_in (o (m+1)) (by omega);have w3:=IntWalk.u64_in (1000000000*o (m+1)) (by omega);have w4:=IntWalk.u64_in (1000000000*o (m+1)+o m) (by omega);have E:=qh (show topF o n m=1000000000*o (m+1)+o m by unfold topF part;rw[if_pos h,if_pos hm])
  have h1:(m:Int)+1<(n:Int):=by omega
  have h2:(m:Int)<(n:Int):=by omega
  have e1:(m:Int)+1-1=(m:Int):=by omega
  have e2:((m:Int)+1).toNat=m+1:=by omega
  have x1:=IntWalk.i64_in ((m:Int)+1-1) (by omega)
  have h0:0<=(m:Int)+1:=by omega
  clear hc hx;go_enter Tryz.func257,Tryz.ntmps257;go_wp2;go_ret;exact⟨by rw[E.o];rfl,rfl⟩
 ·have w3:=IntWalk.u64_in (0+o m) (by omega);have E:=qh (show topF o n m=o m by unfold topF part;rw[if_neg h,if_pos hm];omega)
  have h1:¬(m:Int)+1<(n:Int):=by omega
  have h2:(m:Int)<(n:Int):=by omega
  have e1:(m:Int)+1-1=(m:Int):=by omega
  have x1:=IntWalk.i64_in ((m:Int)+1-1) (by omega);clear hc hx;go_enter Tryz.func257,Tryz.ntmps257;go_wp2;go_ret;exact⟨by rw[E.o];rfl,rfl⟩
def Only (g:Nat) (w w':World):Prop:=(∀ k,k≠g->w'.heap[k]?=w.heap[k]?)/\w'.heap.size=w.heap.size
theorem Only.refl (g:Nat) (w:World):Only g w w:=⟨fun _ _=>rfl,rfl⟩
theorem Only.set {g:Nat} {w w':World} (h:Only g w w') (i:Nat) (v:Value):Only g w (w'.setCell ⟨g,i,none⟩ v) :=
 ⟨fun k hk=>(Below.heap_setCell _ _ _ _ hk).trans (h.1 k hk),by rw[World.size_setCell];exact h.2⟩
theorem Rd.only {g:Nat} {w w':World} {a:Option Addr} {n:Nat} {o:Nat->Int} (h:Rd w a n o) (ho:Only g w w') (hg:0<n->∀ p,a=some p->p.block≠g):Rd w' a n o:=by
 refine⟨fun hn=>?_,h.rng⟩;obtain⟨b,off,ha,hc⟩:=h.cells hn;exact⟨b,off,ha,fun i hi=>(World.cell?_of_block (ho.1 b (hg hn _ ha))).trans (hc i hi)⟩
theorem upd_upd (o:Nat->Int) (j:Nat) (u v:Int):upd (upd o j u) j v=upd o j v:=by
 funext i;unfold upd
 split <;> rfl
theorem takes_any (g n cap base at' lb cb m:Nat) (b:Option Addr) (p ob:Nat->Int) (often:Int) (w:World) (hp:Own 128 w base (some ⟨g,0,none⟩) n cap p) (hb:Rd w b lb ob) (hbg:0<lb->∀ q,b=some q->q.block≠g)
  (dp:Dig p n) (db:Dig ob lb) (hn:n=at' + m) (hn2:n<=200000000) (hm:lb<=m) (ho:0<=often/\often<=999999999) :
  Calls Tryz.prog 258 #[.slice (some ⟨g,0,none⟩) n cap,.slice b lb cb,.int .i64 (at':Int),.int .u64 often] w fun e w'=>e=.returned (.tuple #[]) /\
   Own 128 w' base (some ⟨g,0,none⟩) n cap (takeF p ob lb at' often m)/\Only g w w'/\Below base w w':=by
 have HP:=qh hp;have HB:=qh hb;have DP:=qh dp;have DB:=qh db;have HBG:=qh hbg;have HN:=qh hn;have HBS:=qh (hp.blk rfl).2.1;clear hp hb dp db hbg hn;go_enter Tryz.func258,Tryz.ntmps258;go_wp2_with fail
 go_loopw [8,9] (fun ow i wr=>∃ k:Nat,k<=m/\i=.int .i64 k/\ow=.int .u64 (- cS (offF p ob at' lb often) k)/\Own 128 wr base (some ⟨g,0,none⟩) n cap (takeF p ob lb at' often k)/\Only g w wr/\Below base w wr) (fun _ i _=>m-(intOf i).toNat)
 case atStart=>exact⟨0,by omega,rfl,rfl,by rw[takeF_zero];exact HP.o,Only.refl _ _,zk⟩
 case round =>
  obtain⟨k,hk,rfl,rfl,hO,hOn,hBl⟩:=hrel;have HO:=qh hO;have HON:=qh hOn;have HBL:=qh hBl;clear hO hOn hBl;have hnn:=HN.o;have x0:=IntWalk.i64_in ((at':Int)+(k:Int)) (by omega);by_cases hkm:k<m
  ·have hlt:at' + k<n:=by omega
   have hlt':(at':Int)+(k:Int)<(n:Int):=by omega
   have etn:((at':Int)+(k:Int)).toNat=at' + k:=by omega
   have h0':0<=(at':Int)+(k:Int):=by omega
   obtain⟨x,hx⟩:∃ x,x=p (at' + k):=⟨_,rfl⟩
   have hxb:0<=x/\x<1000000000:=by rw[hx];exact DP.o _ hlt
   have cx:wr.cell? ⟨g,at' + k,none⟩=some (.int .u32 x):=by
    have:=HO.o.cell (i:=at' + k) (by omega);rw[this,takeF_here,hx]
   have fx:=HO.o.fz;obtain⟨D,hD⟩:∃ D,D = - cS (offF p ob at' lb often) k:=⟨_,rfl⟩;obtain⟨y,hy⟩:∃ y,y=part ob lb k:=⟨_,rfl⟩
   have hpart:∀ j,0<=part ob lb j/\part ob lb j<=999999999:=by
    intro j;unfold part;split
    ·have:=DB.o j (by omega);omega
    ·omega
   have hyb:0<=y/\y<=999999999:=by rw[hy];exact hpart k
   have hoy:0<=often*y/\often*y<=999999999*999999999:=⟨Int.mul_nonneg ho.1 hyb.1,Int.mul_le_mul ho.2 hyb.2 hyb.1 (by omega)⟩
   have hcs:=cS_neg (f:=offF p ob at' lb often) (lo:=-999999999) (n:=k) (by omega) (fun i hi=>by
    have h1:=DP.o (at' + i) (by omega);have h2:=hpart i;have h3:often*part ob lb i<=999999999*999999999:=Int.mul_le_mul ho.2 h2.2 h2.1 (by omega);have h4:0<=often*part ob lb i:=Int.mul_nonneg ho.1 h2.1;unfold offF
    omega)
   have hDb:0<=D/\D<=999999999:=by omega
   have eF:offF p ob at' lb often k=x-often*y:=by rw[hx,hy];rfl
   have e1:cS (offF p ob at' lb often) (k+1)=(x-(D+often*y))/1000000000:=by rw[cS,eF];congr 1;omega
   have e2:cD (offF p ob at' lb often) k=(x-(D+often*y))%1000000000:=by unfold cD;rw[eF];congr 1;omega
   clear eF;obtain⟨t,ht⟩:∃ t,t=D+often*y:=⟨_,rfl⟩
   have htb:0<=t/\t<=999999999999999999:=by omega
   rw[<- ht] at e1 e2;obtain⟨s1,s2⟩:=take_step (a:=x) (n:=t) hxb htb.1;rw[<- e1,<- e2] at s1 s2;have ES:=qh (takeF_succ p ob lb at' often k);have HCD:=qh (cD_Dig (offF p ob at' lb often) (k+1) k (by omega));obtain⟨cd,hcd⟩:∃ cd,cd=cD (offF p ob at' lb often) k:=⟨_,rfl⟩;obtain⟨c',hc'⟩:∃ c',c' = - cS (offF p ob at' lb often) (k+1):=⟨_,rfl⟩;rw[<- hcd,<- hc'] at s1 s2;rw[<- hcd] at ES HCD;clear hcd;obtain⟨tm,htm⟩:∃ tm,tm=t%1000000000:=⟨_,rfl⟩;obtain⟨td,htd⟩:∃ td,td=t/1000000000:=⟨_,rfl⟩;rw[<- htm,<- htd] at s1 s2
   have r1:t.tmod 1000000000=tm:=by rw[Int.tmod_eq_emod_of_nonneg htb.1,htm]
   have r2:t.tdiv 1000000000=td:=by rw[Int.tdiv_eq_ediv_of_nonneg htb.1,htd]
   have tmb:0<=tm/\tm<=999999999:=by omega
   have tdb:0<=td/\td<=999999999:=by omega
   have w1:=IntWalk.u64_in tm (by omega);have w2:=IntWalk.u32_in tm (by omega);have w3:=IntWalk.u64_in td (by omega);have w4:=IntWalk.u32_in (x+1000000000) (by omega);have w5:=IntWalk.u64_in (td+1) (by omega);have HC':=qh hc';rw[<- hD];have HT:=qh (And.intro ht (And.intro hy hyb));clear e1 e2 hcs hpart hD htm htd hc' hx;by_cases hkl:k<lb
   ·have hkl':(k:Int)<(lb:Int):=by omega
    obtain⟨bb,bo,rfl,hcb⟩:=(HB.o.only HON.o HBG.o).cells (by omega)
    have cy:wr.cell? ⟨bb,bo+k,none⟩=some (.int .u32 y):=by
     rw[hcb k hkl,hy];show some (Value.int .u32 (ob k))=some (.int .u32 (part ob lb k));unfold part;rw[if_pos hkl]
    have wy:=IntWalk.u64_in y (by omega);have wo1:=IntWalk.u64_in (often*y) (by omega);have wo2:=IntWalk.u64_in (D+often*y) (by omega);rw[<- ht] at wo2;have et:D+often*y=t:=ht.symm;clear hcb hy ht;by_cases hxt:x<tm
    ·obtain⟨s1a,s1b⟩:=s1 hxt;have w6:=IntWalk.u32_in (x+1000000000-tm) (by omega);rw[s1a] at w6;rw[s1b] at w5;have S1:=qh (And.intro s1a s1b);have O1:=qh (HO.o.put (t:=at' + k) (v:=x+1000000000) hlt (by omega));have O2:=qh (O1.o.put (t:=at' + k) (v:=cd) hlt (by have:=HCD.o;omega));have hcd0:=HCD.o;clear s1 s2;go_wp2_with fail
     go_roundw
     case rel=>exact⟨k+1,by omega,by go_num,by rw[HC'.o],by rw[<- ES.o,<- upd_upd _ _ (x+1000000000) cd];exact O2.o,(HON.o.set _ _).set _ _,(HBL.o.setCell HBS.o _).setCell HBS.o _⟩
     case measure=>simp[intOf];omega
    ·obtain⟨s1a,s1b⟩:=s2 hxt;have w6:=IntWalk.u32_in (x-tm) (by omega);rw[s1a] at w6;have S1:=qh (And.intro s1a s1b);have O2:=qh (HO.o.put (t:=at' + k) (v:=cd) hlt (by have:=HCD.o;omega));clear s1 s2;go_wp2_with fail
     go_roundw
     case rel=>exact⟨k+1,by omega,by go_num,by rw[HC'.o],by rw[<- ES.o];exact O2.o,HON.o.set _ _,HBL.o.setCell HBS.o _⟩
     case measure=>simp[intOf];omega
   ·have hkl':¬(k:Int)<(lb:Int):=by omega
    have hy0:y=0:=by rw[hy];unfold part;rw[if_neg hkl]
    have et:D=t:=by rw[ht,hy0,Int.mul_zero];omega
    subst et;clear hy ht;by_cases hxt:x<tm
    ·obtain⟨s1a,s1b⟩:=s1 hxt;have w6:=IntWalk.u32_in (x+1000000000-tm) (by omega);rw[s1a] at w6;rw[s1b] at w5;have S1:=qh (And.intro s1a s1b);have O1:=qh (HO.o.put (t:=at' + k) (v:=x+1000000000) hlt (by omega));have O2:=qh (O1.o.put (t:=at' + k) (v:=cd) hlt (by have:=HCD.o;omega));have hcd0:=HCD.o;clear s1 s2;go_wp2_with fail
     go_roundw
     case rel=>exact⟨k+1,by omega,by go_num,by rw[HC'.o],by rw[<- ES.o,<- upd_upd _ _ (x+1000000000) cd];exact O2.o,(HON.o.set _ _).set _ _,(HBL.o.setCell HBS.o _).setCell HBS.o _⟩
     case measure=>simp[intOf];omega
    ·obtain⟨s1a,s1b⟩:=s2 hxt;have w6:=IntWalk.u32_in (x-tm) (by omega);rw[s1a] at w6;have S1:=qh (And.intro s1a s1b);have O2:=qh (HO.o.put (t:=at' + k) (v:=cd) hlt (by have:=HCD.o;omega));clear s1 s2;go_wp2_with fail
     go_roundw
     case rel=>exact⟨k+1,by omega,by go_num,by rw[HC'.o],by rw[<- ES.o];exact O2.o,HON.o.set _ _,HBL.o.setCell HBS.o _⟩
     case measure=>simp[intOf];omega
  ·obtain rfl:k=m:=by omega
   have hlt':¬(at':Int)+(k:Int)<(n:Int):=by omega
   clear hnn;go_wp2_with fail
   go_end0;exact⟨rfl,HO.o,HON.o,HBL.o⟩
theorem Own.made (w:World) (n:Nat) (o:Nat->Int):Own 128 (w.alloc (.cells (madeCells #[Value.int .u32 0] n) 128)) w.heap.size (some ⟨w.heap.size,0,none⟩) 0 n o :=
 ⟨Nat.zero_le _,Or.inr ⟨_,_,rfl,zj,heap_alloc_new w _,by rw[size_madeCells];exact zj,fun i hi=>by omega⟩,fun i hi=>by omega⟩
theorem twin_step {w wr w2:World} {base g k N:Nat} {o:Nat->Int} {a':Option Addr} {c':Nat} {x:Obj} {v:Int} (hG:Below base w wr) (hbw:base<=wr.heap.size) (hg:base<=g)
  (hown:Own 128 w2 base a' (k+1) c' (upd o k v)) (hk:k+1<=N)
  (hcase:(a'=some ⟨g,0,none⟩/\c'=N/\(wr.alloc x).grownBy w2 (some g))\/((∃ g',a'=some ⟨g',0,none⟩/\wr.heap.size+1<=g')/\(wr.alloc x).grownBy w2 none/\N<k+1)) :
  a'=some ⟨g,0,none⟩/\c'=N/\Below base w w2:=by
 rcases hcase with ⟨rfl,rfl,h⟩ | ⟨_,_,h⟩
 ·exact⟨rfl,rfl,(hG.alloc hbw x).grown h (by simp;omega) (fun q hq=>by cases hq;exact hg)⟩
 ·omega
theorem twinLimbs_any (a:Option Addr) (n ca:Nat) (o:Nat->Int) (w:World) (ha:Rd w a n o) (hn:n<=100000000) :
  Calls Tryz.prog 197 #[.slice a n ca] w fun e w'=>∃ g,e=.returned (.slice (some ⟨g,0,none⟩) n (n+1))/\Own 128 w' w.heap.size (some ⟨g,0,none⟩) (n+1) (n+1) (tw o n)/\Below w.heap.size w w':=by
 obtain⟨i0,hi,hz0,hz1,hz2⟩:=info_parts info32;have e1:=IntWalk.i64_in ((n:Int)+1) (by omega)
 have hmk:∀ w:World,(Instr.makeSlice 28 (.int .i64 0) (.int .i64 ((n:Int)+1))).run Tryz.prog w=.ok (.slice (some ⟨w.heap.size,0,none⟩) 0 (n+1)) (w.alloc (.cells (madeCells #[Value.int .u32 0] (n+1)) 128)):=by
  intro w;have h:=run_make (P:=Tryz.prog) w 28 128 i0 _ Tryz.underlying28 hi hz0 .i64 .i64 0 ((n:Int)+1) (by omega) (by omega) (by rw[hz2];omega) (by omega);rw[hz1,show((n:Int)+1).toNat=n+1 by omega,Nat.mul_one] at h;exact h
 have HA:=qh ha;clear ha hz0 hz1 hz2 hi;go_enter Tryz.func197,Tryz.ntmps197;go_wp2_with fail
 go_loopw [3,4] (fun t i wr=>∃ k:Nat,k<=n/\i=.int .i64 k/\t=.slice (some ⟨w.heap.size,0,none⟩) k (n+1)/\(∃ p,(∀ q,q<k->p q=o q)/\Own 128 wr w.heap.size (some ⟨w.heap.size,0,none⟩) k (n+1) p)/\Below w.heap.size w wr) (fun _ i _=>n-(intOf i).toNat)
 case atStart=>exact⟨0,by omega,rfl,rfl,⟨o,fun _ _=>rfl,Own.made w (n+1) o⟩,qg⟩
 case round =>
  obtain⟨k,hk,rfl,rfl,⟨p,hp,hO⟩,hG⟩:=hrel;have HP:=qh hp;have HO:=qh hO;have HG:=qh hG;clear hp hO hG hmk;by_cases hkn:k<n
  ·obtain⟨b1,o1,rfl,hc1⟩:=(HA.o.below HG.o).cells (by omega);have c1:wr.cell? ⟨b1,o1+k,none⟩=some (.int .u32 (o k)):=hc1 k hkn;have rng:=HA.o.rng k hkn;clear hc1
   go_wp2_with (first
    | (at_builtin;refine Book.wpList_push rfl _ _ rfl (by rfl) (HO.o.allocd _) (by omega) (by have:=HG.o.size;simp;omega) (v:=o k) (by rfl) ?c1 rng (by rfl) ?_))
   case c1=>simp
   intro a' c' w2 hown hcase;obtain⟨rfl,rfl,hb2⟩:=twin_step (N:=n+1) HG.o HG.o.size zj hown (by omega) (hcase.imp id fun ⟨h1,h2,h3⟩=>⟨h1,h2,by omega⟩);have NO:=qh hown;have NG:=qh hb2;clear hown hcase hb2;go_wp2_with fail
   go_roundw
   case rel =>
    refine⟨k+1,by omega,by go_num,rfl,⟨_,fun q hq=>?_,NO.o⟩,NG.o⟩;by_cases e:q=k
    ·subst e;exact upd_same _ _ _
    ·rw[upd_ne _ _ e];exact HP.o q (by omega)
   case measure=>simp[intOf];omega
  ·obtain rfl:k=n:=by omega
   go_wp2_with (first
    | (at_builtin;refine Book.wpList_push rfl _ _ rfl (by rfl) (HO.o.allocd _) (by omega) (by have:=HG.o.size;simp;omega) (v:=77) (by rfl) ?c1 (by omega) (by rfl) ?_))
   case c1=>simp
   intro a' c' w2 hown q1 q2 q3;subst q1;subst q2;have NO:=qh hown;have NG:=qh ((HG.o.alloc HG.o.size (.cells #[Value.int .u32 77] 128)).grown q3 (by have:=HG.o.size;simp;omega) (fun q hq=>by cases hq;exact zj))
   have x1:(k:Int)<=(k:Int)+1:=by omega
   clear hown q3;go_wp2_with fail
   go_ret;refine⟨_,rfl,NO.o.congr fun i hi=>?_,NG.o⟩
   show _=if i<k then o i else 77
   by_cases e:i<k
   ·rw[if_pos e,upd_ne _ _ (by omega)];exact HP.o i e
   ·rw[if_neg e,show i=k by omega];exact upd_same _ _ _
theorem twinNum_any (s:Bool) (a:Option Addr) (n ca:Nat) (o:Nat->Int) (w:World) (ha:Rd w a n o) (hn:n<=100000000) :
  Calls Tryz.prog 159 #[numV s a n ca] w fun e w'=>∃ g,e=.returned (numV s (some ⟨g,0,none⟩) n (n+1))/\Own 128 w' w.heap.size (some ⟨g,0,none⟩) (n+1) (n+1) (tw o n)/\Below w.heap.size w w':=by
 have HR:=qh ha;have B1:=((Bx.new w 30 (.bool s) (.slice a n ca)).alloc (.cells #[.bool false,.slice none 0 0] 30));have B2:=(Bx.new2 w (.cells #[.bool s,.slice a n ca] 30) 30 (.bool false) (.slice none 0 0));clear ha;go_enter Tryz.func159,Tryz.ntmps159
 go_upto_region 1 with (fail)
 obtain⟨W,hW⟩:∃ W,W=((w.alloc (.cells #[.bool s,.slice a n ca] 30)).alloc (.cells #[.bool false,.slice none 0 0] 30)):=⟨_,rfl⟩;have G1:=qh ((zk.alloc (by go_size) _ |>.alloc (by go_size) _):Below w.heap.size w ((w.alloc (.cells #[.bool s,.slice a n ca] 30)).alloc (.cells #[.bool false,.slice none 0 0] 30)));rw[<- hW] at B1 B2 G1;rw[show((w.alloc (.cells #[.bool s,.slice a n ca] 30)).alloc (.cells #[.bool false,.slice none 0 0] 30))=W from hW.symm];have HB1:=qh B1;have HB2:=qh B2;clear hW B1 B2;have HS1:=qh (fun (w':World) (hb:Below W.heap.size W w')=>And.intro (HB1.o.bl hb).c0 (HB1.o.bl hb).c1);have TW:=qh (fun (w':World) (hb:Below W.heap.size W w')=>twinLimbs_any a n ca o w' (HR.o.below (G1.o.trans (hb.mono G1.o.size))) hn)
 refine wp_region_fresh 6 (spOf [(4,Sp.made (fun g:Nat=>.slice (some ⟨g,0,none⟩) n (n+1)) (fun g w'=>Own 128 w' W.heap.size (some ⟨g,0,none⟩) (n+1) (n+1) (tw o n)))])
  (fun w'=>Below W.heap.size W w') (by kernel_rfl) (by kernel_rfl)
  (spOf_cons (Sp.made_keeps fun x w w' h hb=>h.below hb) spOf_nil) (fun _ _ h hb=>h.trans (hb.mono h.size)) (zk.drew) ?_
 simp only[zx,zy,zv,zw]
 iterate 4
  (refine wpF_reads rfl rfl ?_ (fun w' hw'=>?_) ?_;rotate_left;· (have hb':=Has.world hw';(have hs:=HS1.o _ hb');clear hw';go_simp;try rfl))
 (refine wpF_spec rfl rfl (fun w' hw'=>?_) ?_;· (have hb':=Has.world hw';go_simp;((refine(TW.o w' hb').mono ?_;rintro e w'' ⟨g,rfl,hO,hb⟩;exact⟨_,rfl,⟨⟨g,rfl⟩,⟨g,rfl,hO.mono hb'.size⟩⟩,hb⟩))))
 rintro _ ⟨g,rfl⟩
 (refine wpF_reads rfl rfl ?_ (fun w' hw'=>?_) ?_;rotate_left;· (have hb':=Has.world hw';(skip);clear hw';go_simp;try rfl))
 refine wpF_nil (fun w5 hb5 hF5=>?_)
 have OA:Own 128 w5 W.heap.size (some ⟨g,0,none⟩) (n+1) (n+1) (tw o n):=by
  obtain⟨x,e,h⟩:=hF5 4
  cases e
  exact h
 have HO:=qh OA;have B2:=HB2.o.bl hb5;have HB5:=qh B2;obtain⟨b30,b31,b32,b33⟩:=B2.all;have HG5:=qh (G1.o.trans (hb5.mono G1.o.size));have hz4:=HB2.o.lt;have hz5:=G1.o.size;clear hF5 OA B2 hb5 HS1 TW;go_wp2_with fail
 refine bodyPost_ret (results_cell rfl _ _ _ _ _ _ _ rfl (HB5.o.set _ _) Tryz.underlying30 rfl (by kernel_rfl)) rfl ⟨g,rfl,?_,?_⟩
 ·exact((HO.o.oz).oz).mono hz5
 ·exact(HG5.o.sc).sc
end Limb
end Go.Proofs.YthacfgmdihcffaaGreatDoor
namespace Go.Fresh
open Go.RowKit
variable {P:Program} {ops:Array Oper} {md:Region.Mode} {C:World->Prop}
end Go.Fresh
namespace Go.Proofs.YthacfgmdihcffaaGreatDoor
namespace Limb
open Go.RowKit Go.Sort Go.Fresh
structure Num1 where
 b:Nat
 s:Bool
 a:Option Addr
 n:Nat
 c:Nat
 o:Nat->Int
def Good (lo:Nat) (w:World) (x:Num1):Prop:=Bx w x.b 30 (.bool x.s) (.slice x.a x.n x.c)/\Own 128 w lo x.a x.n x.c x.o
def Asunder (x y:Num1):Prop:=∀ p q,x.a=some p->y.a=some q->p.block≠q.block
def All (lo:Nat) (w:World) (L:List Num1):Prop:=(∀ x∈L,Good lo w x)/\L.Pairwise Asunder
theorem All.nil (lo:Nat) (w:World):All lo w []:=⟨fun x h=>(by cases h),List.Pairwise.nil⟩
theorem All.below {lo:Nat} {w w':World} {L:List Num1} (h:All lo w L) (hb:Below w.heap.size w w'):All lo w' L :=
 ⟨fun x hx=>⟨(h.1 x hx).1.below hb (h.1 x hx).1.lt,(h.1 x hx).2.below hb⟩,h.2⟩
theorem All.get {lo:Nat} {w:World} {L:List Num1} (h:All lo w L) {i:Nat} {x:Num1} (hx:L[i]?=some x):Good lo w x:=h.1 x (List.mem_of_getElem? hx)
end Limb
namespace Book
open Go.RowKit Go.Sort Go.Fresh Limb
structure BkB (w:World) (b vb k cap vt kt ct:Nat) (A:Nat->Option Addr) (N C:Nat->Nat) (O:Nat->Nat->Int) (ν:Nat->Nat) (At:Nat->Option Addr) (Nt Ct:Nat->Nat) (Ot:Nat->Nat->Value) (μ:Nat->Nat) (f:Nat->Value):Prop where
 hk:k<=30000
 hkt:kt<=30000
 hν:∀ j,j<k->ν j<=30000
 hμ:∀ j,j<kt->μ j<=30000
 hB:w.rowIs b 59 13 f
 f2:f 2=.slice (some ⟨vb,0,none⟩) k cap
 f6:f 6=.slice (some ⟨vt,0,none⟩) kt ct
 hz:∀ i,0<i->i<13->i≠2->i≠6->f i=.slice none 0 0
 hA:ArrL ν w vb k A N C (fun _=>.slice none 0 0)
 hT:ArrT μ w vt kt At Nt Ct (fun _=>.slice none 0 0)
 hO:∀ j,j<k->Own 128 w 0 (A j) (N j) (C j) (O j)
 hOt:∀ j,j<kt->OwnT w 0 (At j) (Nt j) (Ct j) (Ot j)
 hN:∀ j,j<k->N j<=900000000
 hNt:∀ j,j<kt->Nt j<=100000000
 S:(¬UA k A b/\¬UA k A vb)/\¬UA k A vt
 St:(¬UA kt At b/\¬UA kt At vt)/\¬UA kt At vb
 hD:Part k A
 hDt:Part kt At
 DD:∀ g,UA k A g->¬UA kt At g
 ne:b≠vb/\b≠vt/\vb≠vt
theorem apartT_any (b vb k cap vt kt ct:Nat) (A:Nat->Option Addr) (N C:Nat->Nat) (O:Nat->Nat->Int) (ν:Nat->Nat) (At:Nat->Option Addr) (Nt Ct:Nat->Nat) (Ot:Nat->Nat->Value) (μ:Nat->Nat) (f:Nat->Value) (w:World) (h:BkB w b vb k cap vt kt ct A N C O ν At Nt Ct Ot μ f) :
  Calls Tryz.prog 20 #[.pointer (some ⟨b,0,none⟩)] w fun e w'=>e=.returned (.bool true)/\Touch (fun g=>(UA k A g\/g=vb)\/(UA kt At g\/g=vt)) w w':=by
 have HH:=qh h;have HZ:=qh h.hz;have H0:=qh h.hB;have HP:=qh (show ∀ g,UA k A g->g<w.heap.size from fun g ⟨j,hj,p,hp,e⟩=>by rw[<- e];exact((h.hO j hj).blk hp).2.2);have HPT:=qh (show ∀ g,UA kt At g->g<w.heap.size from fun g ⟨j,hj,p,hp,e⟩=>by rw[<- e];exact((h.hOt j hj).blk hp).2.2);have HVB:=qh (show vb<w.heap.size from h.hA.lt);have HVT:=qh (show vt<w.heap.size from h.hT.lt);clear h;have N0:=qh (fun i (h1:0<i) (h2:i<13) (h3:i≠2) (h4:i≠6)=>(show w.cell? ⟨b,i,none⟩=some (.slice none 0 0) by rw[H0.o.cell h2,HZ.o i h1 h2 h3 h4]));have F:=qh (fillL_any b vb k cap A N C O f ν w HH.o.hk HH.o.hν HH.o.hB HH.o.f2 HH.o.hA HH.o.hO (fun j hj=>by have:=HH.o.hN j hj;omega) HH.o.S.1 HH.o.hD);go_enter Tryz.func20,Tryz.ntmps20;go_wp2_with fail
 refine(fillByte b w (N0.o 1 (by omega) (by omega) (by omega) (by omega))).mono ?_;rintro e x ⟨⟨v,rfl⟩,hx⟩;obtain rfl:=hx.symm;go_wp2_with fail
 refine F.o.mono ?_;rintro e w1 ⟨⟨v,rfl⟩,hT,hO1⟩;have T1:=qh hT;have HO1:=qh hO1;have H1:=qh (H0.o.of_block (hT.block _ H0.o.lt HH.o.S.1.1));have HA1:=qh (HH.o.hA.keep (hT.block _ HVB.o HH.o.S.1.2));have HT1:=qh (HH.o.hT.keep (hT.block _ HVT.o HH.o.S.2));have HOT1:=qh (fun j (hj:j<kt)=>(HH.o.hOt j hj).keep fun p hp=>hT.block _ ((HH.o.hOt j hj).blk hp).2.2 fun hu=>HH.o.DD _ hu ⟨j,hj,p,hp,rfl⟩);clear hT hO1 N0 F;have N1:=qh (fun i (h1:0<i) (h2:i<13) (h3:i≠2) (h4:i≠6)=>(show w1.cell? ⟨b,i,none⟩=some (.slice none 0 0) by rw[H1.o.cell h2,HZ.o i h1 h2 h3 h4]));have FT:=qh (fillT_any b vt kt ct At Nt Ct Ot f μ w1 HH.o.hkt HH.o.hμ H1.o HH.o.f6 HT1.o HOT1.o HH.o.hNt HH.o.St.1 HH.o.hDt);go_wp2_with fail
 refine(fillText b w1 (N1.o 3 (by omega) (by omega) (by omega) (by omega))).mono ?_;rintro e x ⟨⟨v,rfl⟩,hx⟩;obtain rfl:=hx.symm;go_wp2_with fail
 refine(fillToken b w1 (N1.o 4 (by omega) (by omega) (by omega) (by omega))).mono ?_;rintro e x ⟨⟨v,rfl⟩,hx⟩;obtain rfl:=hx.symm;go_wp2_with fail
 refine(fillNum b w1 (N1.o 5 (by omega) (by omega) (by omega) (by omega))).mono ?_;rintro e x ⟨⟨v,rfl⟩,hx⟩;obtain rfl:=hx.symm;go_wp2_with fail
 refine FT.o.mono ?_;rintro e w2 ⟨⟨v,rfl⟩,hT,hO2⟩;have T2:=qh ((T1.o.mono fun g hg=>Or.inl (Or.inl hg)).trans (hT.mono fun g hg=>(Or.inr (Or.inl hg):(UA k A g\/g=vb)\/(UA kt At g\/g=vt))));have HOT2:=qh hO2;have H2:=qh (H1.o.of_block (hT.block _ H1.o.lt HH.o.St.1.1));have HA2:=qh (HA1.o.keep (hT.block _ HA1.o.lt HH.o.St.2));have HT2:=qh (HT1.o.keep (hT.block _ HT1.o.lt HH.o.St.1.2));have HO2:=qh (fun j (hj:j<k)=>(HO1.o j hj).keep fun p hp=>hT.block _ ((HO1.o j hj).blk hp).2.2 fun hu=>HH.o.DD _ ⟨j,hj,p,hp,rfl⟩ hu);clear hT hO2 N1 FT HO1 HOT1;have N2:=qh (fun i (h1:0<i) (h2:i<13) (h3:i≠2) (h4:i≠6)=>(show w2.cell? ⟨b,i,none⟩=some (.slice none 0 0) by rw[H2.o.cell h2,HZ.o i h1 h2 h3 h4]));have G:=qh (growL_any b vb k cap A N C f ν w2 HH.o.hk HH.o.hν H2.o HH.o.f2 HA2.o HO2.o HH.o.hN HH.o.S.1 HH.o.hD HH.o.ne.1);go_wp2_with fail
 refine(fillFactor b w2 (N2.o 7 (by omega) (by omega) (by omega) (by omega))).mono ?_;rintro e x ⟨⟨v,rfl⟩,hx⟩;obtain rfl:=hx.symm;go_wp2_with fail
 refine(fillNode b w2 (N2.o 8 (by omega) (by omega) (by omega) (by omega))).mono ?_;rintro e x ⟨⟨v,rfl⟩,hx⟩;obtain rfl:=hx.symm;go_wp2_with fail
 refine(fillFunc b w2 (N2.o 9 (by omega) (by omega) (by omega) (by omega))).mono ?_;rintro e x ⟨⟨v,rfl⟩,hx⟩;obtain rfl:=hx.symm;go_wp2_with fail
 refine(fillValue b w2 (N2.o 10 (by omega) (by omega) (by omega) (by omega))).mono ?_;rintro e x ⟨⟨v,rfl⟩,hx⟩;obtain rfl:=hx.symm;go_wp2_with fail
 refine(fillInstr b w2 (N2.o 11 (by omega) (by omega) (by omega) (by omega))).mono ?_;rintro e x ⟨⟨v,rfl⟩,hx⟩;obtain rfl:=hx.symm;go_wp2_with fail
 refine(fillChunk b w2 (N2.o 12 (by omega) (by omega) (by omega) (by omega))).mono ?_;rintro e x ⟨⟨v,rfl⟩,hx⟩;obtain rfl:=hx.symm;go_wp2_with fail
 refine(growByte b w2 (N2.o 1 (by omega) (by omega) (by omega) (by omega))).mono ?_;rintro e x ⟨⟨v,rfl⟩,hx⟩;obtain rfl:=hx.symm;go_wp2_with fail
 refine G.o.mono ?_;rintro e w3 ⟨⟨v,rfl⟩,LA,LC,hG⟩;have HG:=qh hG;have T3:=qh (T2.o.trans (hG.tch.mono fun g hg=>(Or.inl hg:(UA k A g\/g=vb)\/(UA kt At g\/g=vt))));have H3:=qh (H2.o.of_block (hG.tch.block _ H2.o.lt (fun h=>h.elim HH.o.S.1.1 (fun h=>HH.o.ne.1 h))));have HT3:=qh (HT2.o.keep (hG.tch.block _ HT2.o.lt (fun h=>h.elim HH.o.S.2 (fun h=>HH.o.ne.2.2 h.symm))));have HOT3:=qh (fun j (hj:j<kt)=>(HOT2.o j hj).keep fun p hp=>hG.tch.block _ ((HOT2.o j hj).blk hp).2.2 fun hu=>hu.elim (fun hu=>HH.o.DD _ hu ⟨j,hj,p,hp,rfl⟩) (fun hu=>HH.o.St.2 ⟨j,hj,p,hp,hu⟩));clear hG N2 G HOT2;have N3:=qh (fun i (h1:0<i) (h2:i<13) (h3:i≠2) (h4:i≠6)=>(show w3.cell? ⟨b,i,none⟩=some (.slice none 0 0) by rw[H3.o.cell h2,HZ.o i h1 h2 h3 h4]));have GT:=qh (growT_any b vt kt ct At Nt Ct f μ w3 HH.o.hkt HH.o.hμ H3.o HH.o.f6 HT3.o HOT3.o HH.o.hNt HH.o.St.1 HH.o.hDt HH.o.ne.2.1);go_wp2_with fail
 refine(growText b w3 (N3.o 3 (by omega) (by omega) (by omega) (by omega))).mono ?_;rintro e x ⟨⟨v,rfl⟩,hx⟩;obtain rfl:=hx.symm;go_wp2_with fail
 refine(growToken b w3 (N3.o 4 (by omega) (by omega) (by omega) (by omega))).mono ?_;rintro e x ⟨⟨v,rfl⟩,hx⟩;obtain rfl:=hx.symm;go_wp2_with fail
 refine(growNum b w3 (N3.o 5 (by omega) (by omega) (by omega) (by omega))).mono ?_;rintro e x ⟨⟨v,rfl⟩,hx⟩;obtain rfl:=hx.symm;go_wp2_with fail
 refine GT.o.mono ?_;rintro e w4 ⟨⟨v,rfl⟩,LAt,LCt,hG⟩;have HGT:=qh hG;have T4:=qh (T3.o.trans (hG.tch.mono fun g hg=>(Or.inr hg:(UA k A g\/g=vb)\/(UA kt At g\/g=vt))));have H4:=qh (H3.o.of_block (hG.tch.block _ H3.o.lt (fun h=>h.elim HH.o.St.1.1 (fun h=>HH.o.ne.2.1 h))));have HA4:=qh (HG.o.arr.keep (hG.tch.block _ HG.o.arr.lt (fun h=>h.elim HH.o.St.2 (fun h=>HH.o.ne.2.2 h))));have HO4:=qh (fun j (hj:j<k)=>(HG.o.own j hj).keep fun p hp=>hG.tch.block _ ((HG.o.own j hj).blk hp).2.2 fun hu=>hu.elim (fun hu=>HH.o.DD _ ⟨j,hj,p,hp,rfl⟩ hu) (fun hu=>HH.o.S.2 ⟨j,hj,p,hp,hu⟩))
 have HL4:=qh (fun j (hj:j<k)=>(HG.o.lng j hj).1.keep fun p hp=>hG.tch.block _ ((HG.o.lng j hj).1.blk hp).2.2 fun hu=>by
  rcases(HG.o.lng j hj).2 with h | ⟨g,h,hlt⟩
  ·rw[h] at hp;exact hu.elim (fun hu=>HH.o.DD _ ⟨j,hj,p,hp,rfl⟩ hu) (fun hu=>HH.o.S.2 ⟨j,hj,p,hp,hu⟩)
  ·rw[h] at hp
   cases hp
   have hsz:=T2.o.size
   rcases hu with hu | hu
   ·have h9:=HPT.o _ hu;have h10:g<w.heap.size:=h9;omega
   ·have h9:=HVT.o;have h10:g=vt:=hu
    omega)
 clear hG N3 GT;have N4:=qh (fun i (h1:0<i) (h2:i<13) (h3:i≠2) (h4:i≠6)=>(show w4.cell? ⟨b,i,none⟩=some (.slice none 0 0) by rw[H4.o.cell h2,HZ.o i h1 h2 h3 h4]));have L:=qh (lookL_any b vb k cap A LA N C LC f ν w4 HH.o.hk HH.o.hν H4.o HH.o.f2 (HA4.o.congr fun j hj=>by rw[if_pos hj]) HO4.o HL4.o HH.o.hN);go_wp2_with fail
 refine(growFactor b w4 (N4.o 7 (by omega) (by omega) (by omega) (by omega))).mono ?_;rintro e x ⟨⟨v,rfl⟩,hx⟩;obtain rfl:=hx.symm;go_wp2_with fail
 refine(growNode b w4 (N4.o 8 (by omega) (by omega) (by omega) (by omega))).mono ?_;rintro e x ⟨⟨v,rfl⟩,hx⟩;obtain rfl:=hx.symm;go_wp2_with fail
 refine(growFunc b w4 (N4.o 9 (by omega) (by omega) (by omega) (by omega))).mono ?_;rintro e x ⟨⟨v,rfl⟩,hx⟩;obtain rfl:=hx.symm;go_wp2_with fail
 refine(growValue b w4 (N4.o 10 (by omega) (by omega) (by omega) (by omega))).mono ?_;rintro e x ⟨⟨v,rfl⟩,hx⟩;obtain rfl:=hx.symm;go_wp2_with fail
 refine(growInstr b w4 (N4.o 11 (by omega) (by omega) (by omega) (by omega))).mono ?_;rintro e x ⟨⟨v,rfl⟩,hx⟩;obtain rfl:=hx.symm;go_wp2_with fail
 refine(growChunk b w4 (N4.o 12 (by omega) (by omega) (by omega) (by omega))).mono ?_;rintro e x ⟨⟨v,rfl⟩,hx⟩;obtain rfl:=hx.symm;go_wp2_with fail
 refine(lookByte b w4 (N4.o 1 (by omega) (by omega) (by omega) (by omega))).mono ?_;rintro e x ⟨rfl,hx⟩;obtain rfl:=hx.symm;go_wp2_with fail
 refine L.o.mono ?_;rintro e w5 ⟨rfl,hb⟩;have T5:=qh (T4.o.trans (Touch.of_below hb));have H5:=qh (H4.o.of_block (hb.block _ H4.o.lt));have LT:=qh (lookT_any b vt kt ct At LAt Nt Ct LCt f μ w5 HH.o.hkt HH.o.hμ H5.o HH.o.f6 ((HGT.o.arr.keep (hb.block _ HGT.o.arr.lt)).congr fun j hj=>by rw[if_pos hj]) (fun j hj=>(HGT.o.own j hj).below hb) (fun j hj=>(HGT.o.lng j hj).1.below hb) HH.o.hNt);clear hb N4 L;have N5:=qh (fun i (h1:0<i) (h2:i<13) (h3:i≠2) (h4:i≠6)=>(show w5.cell? ⟨b,i,none⟩=some (.slice none 0 0) by rw[H5.o.cell h2,HZ.o i h1 h2 h3 h4]));go_wp2_with fail
 refine(lookText b w5 (N5.o 3 (by omega) (by omega) (by omega) (by omega))).mono ?_;rintro e x ⟨rfl,hx⟩;obtain rfl:=hx.symm;go_wp2_with fail
 refine(lookToken b w5 (N5.o 4 (by omega) (by omega) (by omega) (by omega))).mono ?_;rintro e x ⟨rfl,hx⟩;obtain rfl:=hx.symm;go_wp2_with fail
 refine(lookNum b w5 (N5.o 5 (by omega) (by omega) (by omega) (by omega))).mono ?_;rintro e x ⟨rfl,hx⟩;obtain rfl:=hx.symm;go_wp2_with fail
 refine LT.o.mono ?_;rintro e w6 ⟨rfl,hb⟩;have T6:=qh (T5.o.trans (Touch.of_below hb));have H6:=qh (H5.o.of_block (hb.block _ H5.o.lt));clear hb N5 LT;have N6:=qh (fun i (h1:0<i) (h2:i<13) (h3:i≠2) (h4:i≠6)=>(show w6.cell? ⟨b,i,none⟩=some (.slice none 0 0) by rw[H6.o.cell h2,HZ.o i h1 h2 h3 h4]));go_wp2_with fail
 refine(lookFactor b w6 (N6.o 7 (by omega) (by omega) (by omega) (by omega))).mono ?_;rintro e x ⟨rfl,hx⟩;obtain rfl:=hx.symm;go_wp2_with fail
 refine(lookNode b w6 (N6.o 8 (by omega) (by omega) (by omega) (by omega))).mono ?_;rintro e x ⟨rfl,hx⟩;obtain rfl:=hx.symm;go_wp2_with fail
 refine(lookFunc b w6 (N6.o 9 (by omega) (by omega) (by omega) (by omega))).mono ?_;rintro e x ⟨rfl,hx⟩;obtain rfl:=hx.symm;go_wp2_with fail
 refine(lookValue b w6 (N6.o 10 (by omega) (by omega) (by omega) (by omega))).mono ?_;rintro e x ⟨rfl,hx⟩;obtain rfl:=hx.symm;go_wp2_with fail
 refine(lookInstr b w6 (N6.o 11 (by omega) (by omega) (by omega) (by omega))).mono ?_;rintro e x ⟨rfl,hx⟩;obtain rfl:=hx.symm;go_wp2_with fail
 refine(lookChunk b w6 (N6.o 12 (by omega) (by omega) (by omega) (by omega))).mono ?_;rintro e x ⟨rfl,hx⟩;obtain rfl:=hx.symm;go_wp2_with fail
 go_ret;exact⟨rfl,T6.o⟩
end Book
end Go.Proofs.YthacfgmdihcffaaGreatDoor
