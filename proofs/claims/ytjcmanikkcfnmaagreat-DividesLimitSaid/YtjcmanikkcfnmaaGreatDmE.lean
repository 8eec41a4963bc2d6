/-
  The walk of Div of limbs, for two numbers that may be, the second one not 0.
-/
import Derived.Test.YtjcmanikkcfnmaaGreatDmD
import Derived.Deep.DeepCutAuto
import Derived.Deep.RegionHeld3
import Derived.WalkMore
import Derived.Laws.MakeOwn
import Derived.RegionTactic
import Derived.Deep.CutBlock
set_option linter.unusedSimpArgs false
set_option linter.unusedVariables false
set_option maxHeartbeats 16000000
set_option maxRecDepth 100000
namespace Go.Proofs.YtjcmanikkcfnmaaGreat.Limb
open Go.RowKit Go.Sort Go.Fresh
theorem scale_plain {ob:Nat→Int} {m:Nat} (hd:Dig ob (m+1)) (ht:ob m≠0):1≤1000000000/(ob m+1)∧1000000000/(ob m+1)≤500000000∧sumB ob (m+1)*(1000000000/(ob m+1))<(pw (m+1):Int)∧(pw m:Int)≤sumB ob (m+1):=by
 have h:=hd m (by omega)
 have b:=sumB_bd (o:=ob) (n:=m) fun k hk=>hd k (by omega)
 have hp:(0:Int)<(pw m:Int):=by have:=pw_pos m;omega
 have h1:1≤1000000000/(ob m+1):=(Int.le_ediv_iff_mul_le (by omega)).2 (by omega)
 have h2:1000000000/(ob m+1)≤500000000:=by
  have:1000000000/(ob m+1)<500000001:=Int.ediv_lt_of_lt_mul (by omega) (by omega);omega
 have h3:1000000000/(ob m+1)*(ob m+1)≤1000000000:=Int.ediv_mul_le _ (by omega)
 generalize 1000000000/(ob m+1)=s at *
 have e:sumB ob (m+1)=sumB ob m+ob m*(pw m:Int):=rfl;refine⟨h1,h2,?_,?_⟩
 ·have a1:sumB ob (m+1)<(ob m+1)*(pw m:Int):=by rw[e,Int.add_mul];omega
  have a2:sumB ob (m+1)*s<(ob m+1)*(pw m:Int)*s:=Int.mul_lt_mul_of_pos_right a1 (by omega)
  have a3:(ob m+1)*(pw m:Int)*s=s*(ob m+1)*(pw m:Int):=by rw[Int.mul_comm,← Int.mul_assoc]
  have a4:s*(ob m+1)*(pw m:Int)≤1000000000*(pw m:Int):=Int.mul_le_mul_of_nonneg_right h3 (by omega);rw[pw_succ,Int.natCast_mul];omega
 ·have a1:1*(pw m:Int)≤ob m*(pw m:Int):=Int.mul_le_mul_of_nonneg_right (by omega) (by omega);rw[e];omega
theorem scaled_top {p:Nat→Int} {m:Nat} {V:Int} (hd:Dig p (m+1+1)) (hs:sumB p (m+1+1)=V) (hlt:V<(pw (m+1):Int)) (hge:(pw m:Int)≤V):sumB p (m+1)=V∧0<p m:=by
 have b:=sumB_bd (o:=p) (n:=m+1) fun k hk=>hd k (by omega)
 have b2:=sumB_bd (o:=p) (n:=m) fun k hk=>hd k (by omega)
 have hp:(0:Int)<(pw (m+1):Int):=by have:=pw_pos (m+1);omega
 have e:sumB p (m+1+1)=sumB p (m+1)+p (m+1)*(pw (m+1):Int):=rfl;have e2:sumB p (m+1)=sumB p m+p m*(pw m:Int):=rfl
 have h0:p (m+1)=0:=by
  have h:=hd (m+1) (by omega)
  rcases Int.lt_or_le 0 (p (m+1)) with h1 | h1
  ·have:1*(pw (m+1):Int)≤p (m+1)*(pw (m+1):Int):=Int.mul_le_mul_of_nonneg_right (by omega) (by omega);omega
  ·omega
 rw[h0,Int.zero_mul,Int.add_zero] at e;refine⟨by omega,?_⟩;have h:=hd m (by omega)
 rcases Int.lt_or_le 0 (p m) with h1 | h1
 ·exact h1
 ·have:p m=0:=by omega
  rw[this,Int.zero_mul] at e2;omega
structure DivW (w wr:World) (gu gq gv bv n L M cv:Nat) (up qp vp:Nat→Int):Prop where
 u:Own 44 wr w.heap.size (some ⟨gu,0,none⟩) L L up
 q:Own 44 wr w.heap.size (some ⟨gq,0,none⟩) M M qp
 v:Own 44 wr w.heap.size (some ⟨gv,0,none⟩) n cv vp
 vb:wr.rowIs bv 24 1 (fun _=>.slice (some ⟨gv,0,none⟩) n cv)
 bel:Below w.heap.size w wr
def Scaled (w:World) (L N:Nat) (A V:Int) (gu gv bv:Nat) (up vp:Nat→Int) (wx:World):Prop :=
 Dig up L∧sumB up L=A∧Dig vp (N+1)∧sumB vp (N+1)=V∧Own 44 wx w.heap.size (some ⟨gu,0,none⟩) L L up∧Own 44 wx w.heap.size (some ⟨gv,0,none⟩) (N+1) (N+1) vp ∧
  wx.rowIs bv 24 1 (fun _=>.slice (some ⟨gv,0,none⟩) N (N+1))∧(gu≠gv∧gu≠bv∧gv≠bv)∧w.heap.size≤bv∧Below w.heap.size w wx
theorem row_one (w:World) (v:Value) (t:TypeId):(w.alloc (.cells #[v] t)).rowIs w.heap.size t 1 (fun _=>v):=World.rowIs_alloc w #[v] t (fun _=>v) (fun i hi=>by
 match i,hi with
 | 0,_=>rfl)
theorem scaled_1 {w wa wb:World} {L N:Nat} {A V:Int} {gu gv:Nat} {up vp:Nat→Int} (du:Dig up L) (su:sumB up L=A) (dv:Dig vp (N+1)) (sv:sumB vp (N+1)=V) (ou:Own 44 wa w.heap.size (some ⟨gu,0,none⟩) L L up) (ov:Own 44 wb wa.heap.size (some ⟨gv,0,none⟩) (N+1) (N+1) vp)
  (hA1:Below w.heap.size w wa) (hbb:Below wa.heap.size wa wb):Scaled w L N A V gu gv wb.heap.size up vp (wb.alloc (.cells #[.slice (some ⟨gv,0,none⟩) N (N+1)] 24)):=by
 have h1:=(ou.blk rfl).2;have h2:=(ov.blk rfl).2;dsimp only at h1 h2;have hB1:=hA1.trans (hbb.mono hA1.size);exact⟨du,su,dv,sv,(ou.below hbb).allocd _,(ov.mono hA1.size).allocd _,row_one wb _ _,⟨by omega,by have:=hbb.size;omega,by omega⟩,hB1.size,hB1.alloc hB1.size _⟩
theorem scaled_2 {w wa wb:World} {L N:Nat} {A V:Int} {gu gv:Nat} {up vp:Nat→Int} (du:Dig up L) (su:sumB up L=A) (dv:Dig vp (N+1)) (sv:sumB vp (N+1)=V) (ou:Own 44 wa w.heap.size (some ⟨gu,0,none⟩) L L up)
  (ov:Own 44 wb (wa.alloc (.cells #[.slice none 0 0] 24)).heap.size (some ⟨gv,0,none⟩) (N+1) (N+1) vp)
  (hA1:Below w.heap.size w wa) (hbb:Below (wa.alloc (.cells #[.slice none 0 0] 24)).heap.size (wa.alloc (.cells #[.slice none 0 0] 24)) wb) :
  Scaled w L N A V gu gv wa.heap.size up vp (wb.setCell ⟨wa.heap.size,0,none⟩ (.slice (some ⟨gv,0,none⟩) N (N+1))):=by
 have h1:=(ou.blk rfl).2;have h2:=(ov.blk rfl).2;dsimp only at h1 h2;rw[World.size_alloc] at h2;have hB0:Below w.heap.size w (wa.alloc (.cells #[.slice none 0 0] 24)):=hA1.alloc hA1.size _;have hB1:=hB0.trans (hbb.mono hB0.size);have hs:=hA1.size
 refine⟨du,su,dv,sv,((ou.allocd _).below hbb).keep (fun p hp=>Below.heap_setCell _ _ _ _ (by cases hp;dsimp only;omega)),(ov.mono (by simp;omega)).keep (fun p hp=>Below.heap_setCell _ _ _ _ (by cases hp;dsimp only;omega)),
  (((row_one wa _ _).of_block (hbb.block _ (by simp))).set 0 _).congr (fun i hi=>by rw[if_pos (by omega)]),⟨by omega,by omega,by omega⟩,hs,hB1.setCell hs _⟩
theorem scaled_3 {w w0 wa wb:World} {L N:Nat} {A V:Int} {gu gv:Nat} {up vp:Nat→Int} (hw0:w0=(w.alloc (.cells #[.slice none 0 0] 24)).drew) (du:Dig up L) (su:sumB up L=A) (dv:Dig vp (N+1)) (sv:sumB vp (N+1)=V)
  (ou:Own 44 wa w0.heap.size (some ⟨gu,0,none⟩) L L up) (ov:Own 44 wb wa.heap.size (some ⟨gv,0,none⟩) (N+1) (N+1) vp) (hba:Below w0.heap.size w0 wa) (hbb:Below wa.heap.size wa wb) :
  Scaled w L N A V gu gv w.heap.size up vp (wb.setCell ⟨w.heap.size,0,none⟩ (.slice (some ⟨gv,0,none⟩) N (N+1))):=by
 have h1:=(ou.blk rfl).2;have h2:=(ov.blk rfl).2;dsimp only at h1 h2
 have hs0:w0.heap.size=w.heap.size+1:=by rw[hw0];show(w.alloc _).heap.size=_;simp
 have hB0:Below w.heap.size w w0:=by rw[hw0];exact((Below.refl _ _).alloc (Nat.le_refl _) _).drew
 have hB1:=(hB0.trans (hba.mono hB0.size)).trans (hbb.mono (Nat.le_trans hB0.size hba.size));have hz:=hba.size
 have r0:w0.rowIs w.heap.size 24 1 (fun _=>.slice none 0 0):=by rw[hw0];exact(row_one w _ _)
 refine⟨du,su,dv,sv,((ou.mono (by omega)).below hbb).keep (fun p hp=>Below.heap_setCell _ _ _ _ (by cases hp;dsimp only;omega)),(ov.mono (by omega)).keep (fun p hp=>Below.heap_setCell _ _ _ _ (by cases hp;dsimp only;omega)),
  (((r0.of_block (hba.block _ (by omega))).of_block (hbb.block _ (by omega))).set 0 _).congr (fun i hi=>by rw[if_pos (by omega)]),⟨by omega,by omega,by omega⟩,Nat.le_refl _,hB1.setCell (Nat.le_refl _) _⟩
theorem wide_grown (a:Option Addr) (n c:Nat) (o:Nat→Int) (by':Int) (w:World) (hx:Rd w a n o) (dx:Dig o n) (hn:n≤200000000) (hb:0≤by'∧by'≤999999999) (w':World) (h:Below w.heap.size w w') :
  Calls Tryz.prog 143 #[.slice a n c,.int .u32 by'] w' fun e w''=>∃ g p,e=.returned (.slice (some ⟨g,0,none⟩) (n+1) (n+1))∧Dig p (n+1)∧sumB p (n+1)=sumB o n*by'∧Own 44 w'' w'.heap.size (some ⟨g,0,none⟩) (n+1) (n+1) p∧Below w'.heap.size w' w''∧Below w.heap.size w w''∧w'.heap.size≤g∧g<w''.heap.size:=by
 refine(wide_any a n c o by' w' (hx.below h) dx hn hb).mono ?_;rintro e w'' ⟨g,p,rfl,h1,h2,h3,h4⟩;exact⟨g,p,rfl,h1,h2,h3,h4,h.trans (h4.mono h.size),(h3.blk rfl).2.1,(h3.blk rfl).2.2⟩
theorem DivW.drewN {w wr:World} {gu gq gv bv n L M cv:Nat} {up qp vp:Nat→Int} (h:DivW w wr gu gq gv bv n L M cv up qp vp) (k:Nat):DivW w (wr.drewN k) gu gq gv bv n L M cv up qp vp:=by
 have hb:Below wr.heap.size wr (wr.drewN k):=bdrewN (Below.refl _ _) k;exact⟨h.u.below hb,h.q.below hb,h.v.below hb,h.vb.of_block (hb.block _ h.vb.lt),h.bel.trans (hb.mono h.bel.size)⟩
theorem DivW.setBox {w wr:World} {gu gq gv bv n L M cv bg:Nat} {up qp vp:Nat→Int} (h:DivW w wr gu gq gv bv n L M cv up qp vp) (hne:gu≠bg∧gq≠bg∧gv≠bg∧bv≠bg) (hb:w.heap.size≤bg) (x:Value):DivW w (wr.setCell ⟨bg,0,none⟩ x) gu gq gv bv n L M cv up qp vp :=
 ⟨h.u.keep fun p hp=>Below.heap_setCell _ _ _ _ (by cases hp;exact hne.1),h.q.keep fun p hp=>Below.heap_setCell _ _ _ _ (by cases hp;exact hne.2.1),h.v.keep fun p hp=>Below.heap_setCell _ _ _ _ (by cases hp;exact hne.2.2.1),h.vb.setOther hne.2.2.2 _,h.bel.setCell hb _⟩
def boxN (w:World) (b:Nat):Nat:=match w.cell? ⟨b,0,none⟩ with | some (.int _ g)=>g.toNat | _=>0
theorem boxN_row {w:World} {b:Nat} {t:TypeId} {k:IntKind} {g:Int} (h:w.rowIs b t 1 (fun _=>.int k g)):boxN w b=g.toNat:=by
 unfold boxN;rw[h.cell (i:=0) (by omega)]
theorem divide_any (a b:Option Addr) (la ca N n m cb L M:Nat) (oa ob:Nat→Int) (w:World) (ha:Rd w a la oa) (hb:Rd w b N ob) (da:Dig oa la) (db:Dig ob N) (hla:la≤100000000) (hN:N=n+1) (hn:n=m+1) (hL:L=la+1) (hM:M+N=L) (hNa:N≤la) (ht:ob n≠0) :
  Calls Tryz.prog 120 #[.slice a la ca,.slice b N cb] w fun e w'=>∃ gq gr qp rp,e=.returned (.tuple #[.slice (some ⟨gq,0,none⟩) M M,.slice (some ⟨gr,0,none⟩) N N])∧gq≠gr ∧
   Dig qp M∧sumB qp M=sumB oa la/sumB ob N∧Dig rp N∧sumB rp N=sumB oa la%sumB ob N ∧
   Own 44 w' w.heap.size (some ⟨gq,0,none⟩) M M qp∧Own 44 w' w.heap.size (some ⟨gr,0,none⟩) N N rp∧Below w.heap.size w w':=by
 obtain⟨sc,hsc⟩:∃ sc,sc=1000000000/(ob n+1):=⟨_,rfl⟩;have SP:=scale_plain (ob:=ob) (m:=n) (by rw[← hN];exact db) ht;rw[← hsc,← hN] at SP;obtain⟨p1,p2,p3,p4⟩:=SP;have HP:=qh (And.intro p3 p4);have htop:=db n (by omega);obtain⟨bb,bo,rfl,hc⟩:=hb.cells (by omega);have c1:w.cell? ⟨bb,bo+n,none⟩=some (.int .u32 (ob n)):=hc n (by omega)
 have t1:(1000000000:Int).tdiv (ob n+1)=sc:=by rw[hsc];exact Int.tdiv_eq_ediv_of_nonneg (by omega)
 have WA:=qh (fun (w':World) (h:Below w.heap.size w w')=>wide_grown a la ca oa sc w ha da (by omega) (by omega) w' h);have WB:=qh (fun (w':World) (h:Below w.heap.size w w')=>wide_grown (some ⟨bb,bo,none⟩) N cb ob sc w hb db (by omega) (by omega) w' h);rw[← hL] at WA;have DA:=qh (And.intro da db);obtain⟨tp,htp⟩:∃ tp,tp=ob n:=⟨_,rfl⟩;rw[← htp] at c1 t1 htop;have e1:=IntWalk.u32_in (tp+1) (by omega);have e2:=IntWalk.u32_in sc (by omega)
 have x1:¬(tp+1=0):=by omega
 have xn:(N:Int)-1=(n:Int):=by omega
 have xn2:=IntWalk.i64_in ((N:Int)-1) (by omega)
 have hnN:n<N:=by omega
 have HT:=qh htp;have HEQ:=qh (And.intro (And.intro hN hn) (And.intro hL hM));clear ha hb da db hc htop p3 p4 hsc ht htp hN hn hL;go_enter Tryz.func120,Tryz.ntmps120;go_wp2_with fail
 go_step3
 go_upto_region 3 with (fail)
 go_cut [8,9] (fun v8 v9 wx=>∃ gu gv bv up vp,v8=.slice (some ⟨gu,0,none⟩) L L∧v9=.pointer (some ⟨bv,0,none⟩)∧Scaled w L N (sumB oa la*sc) (sumB ob N*sc) gu gv bv up vp wx)
 case first =>
  have xs1:(N:Int)≤(N:Int)+1:=by omega
  have xs2:(0:Int)≤(N:Int):=by omega
  have HBB:=qh (Below.refl w.heap.size w)
  go_region_held3 (fun w'=>Below w.heap.size w w')
   (repeat (first
    | (with_reducible assumption)
    | (with_reducible exact Below.refl _ _)
    | (with_reducible refine Below.setCell ?_ ?_ _)
    | (with_reducible refine Below.alloc ?_ ?_ _)
    | (with_reducible refine Below.drew ?_)
    | (simp only[World.size_alloc,World.size_drew,World.size_setCell];omega) | omega))
   (first
    | (go_at_call 143;refine(WA.out _ (by first | with_reducible assumption | exact Below.drew (Below.refl _ _) | exact(by with_reducible assumption:Below _ _ _).alloc (by with_reducible assumption) _ | exact(Below.drew (Below.refl _ _)).alloc (Nat.le_refl _) _)).mono ?_;rintro e wa ⟨gu,up,rfl,du,su,ou,hba,hA1,ga1,ga2⟩;have hsa:=hA1.size;obtain⟨hca,hfa⟩:=bcell hba;have hza:=hba.size;(try simp only[World.size_alloc,World.size_drew] at hza hca hfa);(try rw[Nat.add_one_le_iff] at hza))
    | (go_at_call 143;refine(WB.out _ (by first | with_reducible assumption | exact Below.drew (Below.refl _ _) | exact(by with_reducible assumption:Below _ _ _).alloc (by with_reducible assumption) _ | exact(Below.drew (Below.refl _ _)).alloc (Nat.le_refl _) _)).mono ?_;rintro e wb ⟨gv,vp,rfl,dv,sv,ov,hbb,hB1,gb1,gb2⟩;have hsb:=hB1.size;obtain⟨hcb,hfb⟩:=bcell hbb;have hzb:=hbb.size;(try simp only[World.size_alloc,World.size_drew] at hzb hcb hfb);(try rw[Nat.add_one_le_iff] at hzb)))
  ·go_wp2_with fail
   go_meet
   case rel=>exact⟨gu,gv,_,up,vp,rfl,rfl,scaled_1 du su dv sv ou ov hA1 hbb⟩
  ·go_wp2_with fail
   go_meet
   case rel=>exact⟨gu,gv,_,up,vp,rfl,rfl,scaled_2 du su dv sv ou ov hA1 hbb⟩
  ·go_wp2_with fail
   go_meet
   case rel=>exact⟨gu,gv,_,up,vp,rfl,rfl,scaled_3 rfl du su dv sv ou ov hba hbb⟩
 case rest =>
  obtain⟨gu,gv,bv,up,vp,rfl,rfl,hsc⟩:=hcut;obtain⟨w1,rfl⟩:∃ w1,w1=wc:=⟨_,rfl⟩;obtain⟨V,hV⟩:∃ V,V=sumB ob N*sc:=⟨_,rfl⟩;obtain⟨X,hX⟩:∃ X,X=sumB oa la*sc:=⟨_,rfl⟩;rw[← hV,← hX] at hsc;obtain⟨du,su,dv,sv,ou,ov,rv,hdis,hbv,hbel⟩:=hsc;have HSC:=qh (And.intro (And.intro du su) (And.intro ou ov));have HD:=qh hdis;have hbe:=HEQ.out.1.1;have hLe:=HEQ.out.2.1
  have hVlt:V<(pw N:Int):=by rw[hV];exact HP.out.1
  have hVge:(pw n:Int)≤V:=by
   have h1:=HP.out.2;have h2:sumB ob N*1≤sumB ob N*sc:=Int.mul_le_mul_of_nonneg_left p1 (by have:=(sumB_bd DA.out.2).1;omega);rw[hV];omega
  have hpn:(0:Int)<(pw n:Int):=by have:=pw_pos n;omega
  have hV0:0<V:=by omega
  have HT2:=scaled_top (p:=vp) (m:=n) (V:=V) (by rw[← hbe];exact dv) (by rw[← hbe];exact sv) (by rw[← hbe];exact hVlt) hVge;rw[← hbe] at HT2;have HVT:=qh HT2;have HVV:=qh (And.intro (And.intro hV hX) (And.intro hVlt (And.intro hVge hV0)))
  have hX0:X<V*(pw M:Int):=by
   have b:=sumB_bd DA.out.1;have e1:sumB oa la*sc<(pw la:Int)*sc:=Int.mul_lt_mul_of_pos_right b.2 (by omega)
   have e2:(pw la:Int)*sc≤V*(pw M:Int):=by
    have h3:(pw la:Int)=(pw n:Int)*(pw M:Int):=by rw[← Int.natCast_mul,← pw_add];congr 1;congr 1;have:=HEQ.out;omega
    rw[h3,hV,Int.mul_assoc,Int.mul_assoc];have h4:=HP.out.2;have h5:(pw n:Int)*((pw M:Int)*sc)≤sumB ob N*((pw M:Int)*sc):=Int.mul_le_mul_of_nonneg_right h4 (Int.mul_nonneg (by omega) (by omega))
    rwa [Int.mul_comm (pw M:Int) sc] at h5 ⊢
   rw[hX];omega
  have hmk:=run_make_row' (P:=Tryz.prog) 24 44 (.int .u32 0) 4 Tryz.underlying24 info32 rfl .i64 .i64 M (by omega) (by omega)
  have xl:(L:Int)-(N:Int)=(M:Int):=by omega
  have xl2:=IntWalk.i64_in ((L:Int)-(N:Int)) (by omega);have xw:=IntWalk.i64_in (M:Int) (by omega);have xM1:=IntWalk.i64_in ((M:Int)-1) (by omega)
  have xm0:(0:Int)<(M:Int):=by omega
  have xm1:(0:Int)≤(M:Int):=by omega
  have xm2:max (0:Int) (M:Int)=(M:Int):=by omega
  have hdv:Dig vp N:=fun k hk=>dv k (by omega)
  have W0:=qh (show DivW w (w1.alloc (.cells (madeCells #[Value.int .u32 0] M) 44)) gu w1.heap.size gv bv N L M (N+1) up (fun _=>0) vp from
   ⟨ou.allocd _,Own.of_rowIs (World.rowIs_made w1 (.int .u32 0) M 44) hbel.size (fun i hi=>by omega),(ov.less (by omega)).allocd _,rv.alloc _,hbel.alloc hbel.size _⟩)
  have D0:=qh (show DivI X V N L M M up (fun _=>0) from⟨du,fun k _=>⟨by omega,by omega⟩,fun _ _=>rfl,by rw[Nat.sub_self,sumB,su];simp,by rw[su];exact hX0⟩);have HDIS:=qh (show(gu≠gv∧gu≠bv∧gv≠bv)∧(gu<w1.heap.size∧gv<w1.heap.size∧bv<w1.heap.size) from⟨hdis,(ou.blk rfl).2.2,(ov.blk rfl).2.2,rv.lt⟩);have HDV:=qh hdv;clear du su dv sv ou ov rv hdis hbv hbel hbe hLe hVlt hVge hpn hV0 HT2 hX0 hdv hV hX;go_wp2_with fail
  go_step3;go_wp2_with fail
  go_loopw [10] (fun iv wr=>∃ i:Nat,i≤M∧iv=.int .i64 ((i:Int)-1)∧∃ up qp,DivI X V N L M i up qp∧DivW w wr gu w1.heap.size gv bv N L M (N+1) up qp vp) (fun iv _=>(1+intOf iv).toNat)
  case atStart=>exact⟨M,Nat.le_refl _,rfl,up,_,D0.out,W0.out⟩
  case round =>
   obtain⟨wo,rfl⟩:∃ wo,wo=wr:=⟨_,rfl⟩;obtain⟨i,hi,rfl,up2,qp2,hD,hW⟩:=hrel;have KD:=qh hD;have KW:=qh hW;clear hD hW hmk
   by_cases hi0:i=0
   ·subst hi0;rw[show(((0:Nat):Int)-1) = -1 from rfl];have hlow:=sum_low (o:=up2) (n:=N) (L:=L) KD.out.udig (by omega) (by have:=KD.out.lt;rw[pw_zero] at this;have:=HVV.out.2.1;omega);have hb:=KD.out.bal;have hlt:=KD.out.lt;rw[pw_zero,show(fun k=>qp2 (0+k))=qp2 from by funext k;rw[Nat.zero_add],Nat.sub_zero] at hb;rw[pw_zero] at hlt;have hu0:=(sumB_bd KD.out.udig).1;have hE:=div_end (A:=sumB oa la) (Bv:=sumB ob N) (sc:=sc) (Q:=sumB qp2 M) (R:=sumB up2 L) (by omega) (by rw[← HVV.out.1.2,← HVV.out.1.1];rw[hb];simp) hu0 (by rw[← HVV.out.1.1];simpa using hlt);have SH:=qh (short_any (some ⟨gu,0,none⟩) N L up2 sc wo (KW.out.u.less (by omega)).rd (fun k hk=>KD.out.udig k (by omega)) (by omega) (by omega) (by omega));rw[hlow] at SH;have HE:=qh hE
    have xs1:(N:Int)≤(L:Int):=by omega
    have xs2:(0:Int)≤(N:Int):=by omega
    clear hlow hb hlt hu0 hE;go_wp2_with fail
    refine SH.out.mono ?_;rintro e w2 ⟨rp,rfl,dr,sr,orr,hb2⟩;have HRR:=qh (And.intro (And.intro dr sr) (And.intro orr hb2));clear dr sr orr hb2 SH;go_wp2_with fail
    rw[Exit.noGoto_ret];go_ret2;exact⟨w1.heap.size,wo.heap.size,qp2,rp,rfl,by have:=(KW.out.q.blk rfl).2.2;dsimp only at this;omega,KD.out.qdig,HE.out.1,HRR.out.1.1,HRR.out.1.2.trans HE.out.2,KW.out.q.below HRR.out.2.2,HRR.out.2.1.mono KW.out.bel.size,KW.out.bel.trans (HRR.out.2.2.mono KW.out.bel.size)⟩
   ·obtain⟨j,rfl⟩:∃ j,i=j+1:=⟨i-1,by omega⟩;rw[show(((j+1:Nat):Int)-1)=(j:Int) by omega];have hH:=KD.out.head (by omega) (by omega) HVV.out.2.1 HVV.out.2.2.2;have HH:=qh hH;have hLe:=HEQ.out.2.1;have xj1:=IntWalk.i64_in ((j:Int)+(N:Int)) (by omega);have xj2:=IntWalk.i64_in ((j:Int)+(N:Int)+1) (by omega);have xj6:=IntWalk.i64_in ((j:Int)-1) (by omega)
    have xj3:(j:Int)≤(j:Int)+(N:Int)+1:=by omega
    have xj4:(j:Int)+(N:Int)+1≤(L:Int):=by omega
    have xj5:(0:Int)≤(j:Int):=by omega
    have xlen:j+N+1-j=N+1:=by omega
    clear hH hLe
    go_upto_region 9 with (fail)
    obtain⟨Wh,hWh⟩:∃ Wh,Wh=wo.alloc (.cells #[.slice (some ⟨gu,j,none⟩) (N+1) (L-j)] 24):=⟨_,rfl⟩;have LW:=qh (show DivW w Wh gu w1.heap.size gv bv N L M (N+1) up2 qp2 vp by rw[hWh];exact⟨KW.out.u.allocd _,KW.out.q.allocd _,KW.out.v.allocd _,KW.out.vb.alloc _,KW.out.bel.alloc KW.out.bel.size _⟩);have LH:=qh (show Wh.rowIs wo.heap.size 24 1 (fun _=>.slice (some ⟨gu,j,none⟩) (N+1) (L-j)) by rw[hWh];exact row_one wo _ _);have HSZ:=qh (show gu<wo.heap.size∧w1.heap.size<wo.heap.size∧gv<wo.heap.size∧bv<wo.heap.size∧Wh.heap.size=wo.heap.size+1 from⟨(KW.out.u.blk rfl).2.2,(KW.out.q.blk rfl).2.2,(KW.out.v.blk rfl).2.2,KW.out.vb.lt,by rw[hWh];simp⟩);rw[show wo.alloc (.cells #[.slice (some ⟨gu,j,none⟩) (N+1) (L-j)] 24)=Wh from hWh.symm];clear hWh;have hnn:=HEQ.out.1.1;have hb0:Wh.cell? ⟨wo.heap.size,0,none⟩=some (.slice (some ⟨gu,j,none⟩) (N+1) (L-j)):=LH.out.cell (i:=0) (by omega);have hu1:Wh.cell? ⟨gu,j+N,none⟩=some (.int .u32 (up2 (j+N))):=LW.out.u.cell (by omega);have hu2:Wh.cell? ⟨gu,j+n,none⟩=some (.int .u32 (up2 (j+n))):=LW.out.u.cell (by omega);have hv0:Wh.cell? ⟨bv,0,none⟩=some (.slice (some ⟨gv,0,none⟩) N (N+1)):=LW.out.vb.cell (i:=0) (by omega);have hv1:Wh.cell? ⟨gv,n,none⟩=some (.int .u32 (vp n)):=LW.out.v.cell (by omega);have d1:=KD.out.udig (j+N) (by omega);have d2:=KD.out.udig (j+n) (by omega);have d3:=HDV.out n (by omega);have d4:=HVT.out.2;obtain⟨two,htwo⟩:∃ two,two=up2 (j+N)*1000000000+up2 (j+n):=⟨_,rfl⟩;have y1:=IntWalk.u64_in (up2 (j+N)) (by omega);have y2:=IntWalk.u64_in (up2 (j+n)) (by omega)
    have y3:=IntWalk.u64_in (up2 (j+N)*1000000000) (by omega);have y4:=IntWalk.u64_in (up2 (j+N)*1000000000+up2 (j+n)) (by omega);have y5:=IntWalk.u64_in (vp n) (by omega);have y6:two.tdiv (vp n)=two/vp n:=Int.tdiv_eq_ediv_of_nonneg (by omega)
    have y7:¬vp n=0:=by omega
    have y8:0≤two/vp n∧two/vp n≤two:=⟨Int.ediv_nonneg (by omega) (by omega),Int.ediv_le_self _ (by omega)⟩;have y9:=IntWalk.u64_in (two/vp n) (by omega)
    have z1:(N:Int)<((N+1:Nat):Int):=by omega
    have z2:(n:Int)<((N+1:Nat):Int):=by omega
    have z3:(N:Int)<(N:Int)+1:=by omega
    have z4:(n:Int)<(N:Int)+1:=by omega
    have z5:n<N+1:=by omega
    have HTWO:=qh htwo
    have htb:0≤two∧two≤999999999999999999:=by omega
    clear hnn;go_wp2_with fail
    go_quiet (fail);obtain⟨Wd,hWd⟩:∃ Wd,Wd=Wh.drewN nq:=⟨_,rfl⟩
    have cw:∀ p,Wd.cell? p=Wh.cell? p:=by rw[hWd];intro p;rfl
    have LD:=qh (show DivW w Wd gu w1.heap.size gv bv N L M (N+1) up2 qp2 vp from
     have hbD:Below Wh.heap.size Wh Wd:=by rw[hWd];exact bdrewN (Below.refl _ _) nq
     ⟨LW.out.u.below hbD,LW.out.q.below hbD,LW.out.v.below hbD,LW.out.vb.of_block (hbD.block _ LW.out.vb.lt),LW.out.bel.trans (hbD.mono LW.out.bel.size)⟩)
    have LHD:=qh (show Wd.rowIs wo.heap.size 24 1 (fun _=>.slice (some ⟨gu,j,none⟩) (N+1) (L-j)) by rw[hWd];exact LH.out);have HSD:=qh (show Wd.heap.size=wo.heap.size+1 by rw[hWd];exact HSZ.out.2.2.2.2);rw[← hWd,← HTWO.out];have hb0:=(cw _).trans hb0;have hv0:=(cw _).trans hv0;have hv1:=(cw _).trans hv1;clear htwo y1 y2 y3 y4 hu1 hu2 hWd cw LW LH
    go_upto_region 11 with (fail)
    obtain⟨g0,hg0⟩:∃ g0,g0=(if 999999999<two/vp n then 999999999 else two/vp n):=⟨_,rfl⟩;rw[← hg0]
    have hgm:g0=min (two/vp n) 999999999:=by rw[hg0];split <;> omega
    obtain⟨bg,hbg⟩:∃ bg,bg=Wd.heap.size:=⟨_,rfl⟩;obtain⟨Wg,hWg⟩:∃ Wg,Wg=Wd.alloc (.cells #[.int .u64 g0] 108):=⟨_,rfl⟩;have MW:=qh (show DivW w Wg gu w1.heap.size gv bv N L M (N+1) up2 qp2 vp by rw[hWg];exact⟨LD.out.u.allocd _,LD.out.q.allocd _,LD.out.v.allocd _,LD.out.vb.alloc _,LD.out.bel.alloc LD.out.bel.size _⟩);have MH:=qh (show Wg.rowIs wo.heap.size 24 1 (fun _=>.slice (some ⟨gu,j,none⟩) (N+1) (L-j)) by rw[hWg];exact LHD.out.alloc _);have MG:=qh (show Wg.rowIs bg 108 1 (fun _=>.int .u64 g0) by rw[hWg,hbg];exact row_one Wd _ _);have hbg2:bg=wo.heap.size+1:=hbg.trans HSD.out;rw[show Wd.alloc (.cells #[.int .u64 g0] 108)=Wg from hWg.symm,← hbg];clear hWg hbg LD LHD hb0 hv0 hv1;have hnn:=HEQ.out.1
    have hq0:headV up2 N j/V≤g0:=by
     have hd:=HH.out;rw[hgm];have tt:=(top_two (f:=fun k=>up2 (j+k)) (m:=n) (fun k hk=>KD.out.udig (j+k) (by omega))).1;have tv:=(top_two (f:=vp) (m:=m) (fun k hk=>HDV.out k (by omega))).2;rw[← hnn.1,← HTWO.out] at tt;rw[← hnn.2,← hnn.1,HVT.out.1] at tv;have hpm:0≤vp m*(pw m:Int):=Int.mul_nonneg (HDV.out m (by omega)).1 (by omega)
     have hpn:(0:Int)<(pw n:Int):=by have:=pw_pos n;omega
     refine guess_ge (B1:=(pw n:Int)) d4 hpn ?_ hd.1 (by simpa[headV,hnn.1] using tt) hd.2.1 HVV.out.2.2.2;rw[Int.add_mul] at tv
     have e:vp n*(pw n:Int)=vp n*1000000000*(pw m:Int):=by rw[hnn.2,pw_succ,Int.natCast_mul,Int.mul_comm (pw m:Int),← Int.mul_assoc];rfl
     omega
    have hgv:g0*vp n≤two:=by
     have h1:g0≤two/vp n:=by omega
     exact(Int.le_ediv_iff_mul_le d4).1 h1
    have hgb:0≤g0∧g0≤999999999:=by omega
    have HG0:=qh (And.intro (And.intro hgb hq0) hgv);have hgn:0≤g0*vp n:=Int.mul_nonneg hgb.1 (by omega);have r0:Wg.cell? ⟨bg,0,none⟩=some (.int .u64 g0):=MG.out.cell (i:=0) (by omega);have r1:Wg.cell? ⟨bv,0,none⟩=some (.slice (some ⟨gv,0,none⟩) N (N+1)):=MW.out.vb.cell (i:=0) (by omega);have r2:Wg.cell? ⟨gv,n,none⟩=some (.int .u32 (vp n)):=MW.out.v.cell (by omega);have hnN:=hnN;have y10:=IntWalk.u64_in (g0*vp n) (by omega);have y11:=IntWalk.u64_in (two-g0*vp n) (by omega);have HB2:=qh hbg2;clear hgm hq0 hgv hgb hgn hg0 hnn hbg2;go_wp2_with fail
    go_quiet (fail);obtain⟨Wv,hWv⟩:∃ Wv,Wv=Wg.drewN nq:=⟨_,rfl⟩
    have hbD:Below Wg.heap.size Wg Wv:=by rw[hWv];exact bdrewN (Below.refl _ _) nq
    have NW:=qh (show DivW w Wv gu w1.heap.size gv bv N L M (N+1) up2 qp2 vp from⟨MW.out.u.below hbD,MW.out.q.below hbD,MW.out.v.below hbD,MW.out.vb.of_block (hbD.block _ MW.out.vb.lt),MW.out.bel.trans (hbD.mono MW.out.bel.size)⟩);have NH:=qh (MH.out.of_block (hbD.block _ MH.out.lt));have NG:=qh (MG.out.of_block (hbD.block _ MG.out.lt));rw[← hWv];clear hWv hbD r0 r1 r2 MW MH MG y10 y11;go_wp2_with fail
    go_loopw [14] (fun ov wx=>∃ g:Int,((0≤g∧g≤999999999)∧headV up2 N j/V≤g)∧g*vp n≤two∧ov=.int .u64 (two-g*vp n)∧DivW w wx gu w1.heap.size gv bv N L M (N+1) up2 qp2 vp ∧
     wx.rowIs wo.heap.size 24 1 (fun _=>.slice (some ⟨gu,j,none⟩) (N+1) (L-j))∧wx.rowIs bg 108 1 (fun _=>.int .u64 g)) (fun ov _=>(1000000000-intOf ov).toNat)
    case atStart=>exact⟨g0,HG0.out.1,HG0.out.2,rfl,NW.out,NH.out,NG.out⟩
    case round =>
     obtain⟨g,hg,hgt,rfl,hW,hH,hG⟩:=hrel;have OW:=qh hW;have OH:=qh hH;have OG:=qh hG;have OB:=qh hg;have hv1:=HDV.out n (by have:=HEQ.out.1;omega);have hgn:0≤g*vp n:=Int.mul_nonneg hg.1.1 hv1.1;obtain⟨ov,hov⟩:∃ ov,ov=two-g*vp n:=⟨_,rfl⟩
     have hob:0≤ov∧ov≤999999999999999999:=by omega
     have HOV:=qh hov;rw[← hov];have hv2:=HDV.out m (by have:=HEQ.out.1;omega);have hu3:=KD.out.udig (j+m) (by have:=HEQ.out;omega);have hgm:0≤g*vp m∧g*vp m≤999999999*999999999:=⟨Int.mul_nonneg hg.1.1 hv2.1,Int.mul_le_mul hg.1.2 (by omega) hv2.1 (by omega)⟩;obtain⟨gm,hgm2⟩:∃ gm,gm=g*vp m:=⟨_,rfl⟩;rw[← hgm2] at hgm;have HGM:=qh hgm2;have r0:wr.cell? ⟨bg,0,none⟩=some (.int .u64 g):=hG.cell (i:=0) (by omega);have r1:wr.cell? ⟨bv,0,none⟩=some (.slice (some ⟨gv,0,none⟩) N (N+1)):=hW.vb.cell (i:=0) (by omega);have r2:wr.cell? ⟨wo.heap.size,0,none⟩=some (.slice (some ⟨gu,j,none⟩) (N+1) (L-j)):=hH.cell (i:=0) (by omega);have r3:wr.cell? ⟨gv,n,none⟩=some (.int .u32 (vp n)):=hW.v.cell (by have:=HEQ.out.1;omega);have r4:wr.cell? ⟨gv,m,none⟩=some (.int .u32 (vp m)):=hW.v.cell (by have:=HEQ.out.1;omega);have r5:wr.cell? ⟨gu,j+m,none⟩=some (.int .u32 (up2 (j+m))):=hW.u.cell (by have:=HEQ.out;omega);have fz:=hG.frozen
     have ne1:¬bv=bg:=by have:=HSZ.out;have:=HB2.out;omega
     have ne2:¬gv=bg:=by have:=HSZ.out;have:=HB2.out;omega
     have ne3:¬bg=bv:=fun h=>ne1 h.symm
     have ne4:¬bg=gv:=fun h=>ne2 h.symm
     have xm:(N:Int)-2=(m:Int):=by have:=HEQ.out.1;omega
     have xm3:=IntWalk.i64_in ((N:Int)-2) (by omega)
     have xm4:(m:Int)<(N:Int):=by have:=HEQ.out.1;omega
     have xm5:(m:Int)<(N:Int)+1:=by omega
     have xm6:m<N:=by omega
     have w1':=IntWalk.u64_in (vp m) (by omega);have w2':=IntWalk.u64_in (vp n) (by omega);have w3':=IntWalk.u64_in gm (by omega);have w4':=IntWalk.u64_in (up2 (j+m)) (by omega);have w5':=IntWalk.u64_in g (by omega);clear hW hH hG hg hgt hgn hv2 hu3 hov hgm2
     by_cases hlt:ov<1000000000
     ·have w6':=IntWalk.u64_in (ov*1000000000) (by omega);have w7':=IntWalk.u64_in (ov*1000000000+up2 (j+m)) (by have:=KD.out.udig (j+m) (by have:=HEQ.out;omega);omega);have egm:g*vp m=gm:=HGM.out.symm
      by_cases hgr:gm>ov*1000000000+up2 (j+m)
      ·have w8':=IntWalk.u64_in (g-1) (by have:=OB.out;have:g≠0:=(fun h=>by rw[HGM.out,h,Int.zero_mul] at hgr;have:=KD.out.udig (j+m) (by have:=HEQ.out;omega);omega);omega);have w9':=IntWalk.u64_in (ov+vp n) (by omega);have hnn:=HEQ.out.1
       have HGD:=qh (show headV up2 N j/V≤g-1 from by
        have tt:=top_three (f:=fun k=>up2 (j+k)) (m:=m) (fun k hk=>KD.out.udig (j+k) (by have:=HEQ.out;omega));have tv:=(top_two (f:=vp) (m:=m) (fun k hk=>HDV.out k (by omega))).2
        have hpm:(0:Int)<(pw m:Int):=by have:=pw_pos m;omega
        rw[← hnn.2,← hnn.1,HVT.out.1] at tv;refine guess_down (v1:=vp n) (v2:=vp m) (two:=two) (h2:=up2 (j+m)) hpm tv ?_ OB.out.1.1 (by rw[← HOV.out,← HGM.out];omega) OB.out.2 HVV.out.2.2.2
        have e:two=up2 (j+(m+1+1))*1000000000+up2 (j+(m+1)):=by rw[HTWO.out,hnn.1,hnn.2]
        rw[e]
        simpa[headV,hnn.1,hnn.2] using tt)
       have HG1:=qh (show 0≤g-1∧g-1≤999999999∧(g-1)*vp n≤two∧ov+vp n=two-(g-1)*vp n from by
        have h1:=OB.out;have h2:g≠0:=(fun h=>by rw[HGM.out,h,Int.zero_mul] at hgr;have:=KD.out.udig (j+m) (by have:=HEQ.out;omega);omega)
        have h3:(g-1)*vp n=g*vp n-vp n:=by rw[Int.sub_mul,Int.one_mul]
        have h4:=HOV.out
        omega)
       have HNE:=qh (show(gu≠bg∧w1.heap.size≠bg∧gv≠bg∧bv≠bg)∧w.heap.size≤bg∧wo.heap.size≠bg by have:=HSZ.out;have:=HB2.out;have:=KW.out.bel.size;omega);clear hnn;go_wp2_with fail
       go_quiet (fail);go_wp2_with fail
       go_roundw
       case rel=>exact⟨g-1,⟨⟨HG1.out.1,HG1.out.2.1⟩,HGD.out⟩,HG1.out.2.2.1,by rw[HG1.out.2.2.2],(OW.out.drewN nq).setBox HNE.out.1 HNE.out.2.1 _,World.rowIs.setOther (w:=wr.drewN nq) OH.out HNE.out.2.2 _,(World.rowIs.set (w:=wr.drewN nq) OG.out 0 _).congr (fun i hi=>by rw[if_pos (by omega)])⟩
       case measure=>simp[intOf];omega
      ·go_wp2_with fail
       go_quiet (fail);obtain⟨wy,hwy⟩:∃ wy,wy=wr.drewN nq:=⟨_,rfl⟩;rw[← hwy]
       have hbD:Below wr.heap.size wr wy:=by rw[hwy];exact bdrewN (Below.refl _ _) nq
       have PW:=qh (show DivW w wy gu w1.heap.size gv bv N L M (N+1) up2 qp2 vp from⟨OW.out.u.below hbD,OW.out.q.below hbD,OW.out.v.below hbD,OW.out.vb.of_block (hbD.block _ OW.out.vb.lt),OW.out.bel.trans (hbD.mono OW.out.bel.size)⟩);have PH:=qh (OH.out.of_block (hbD.block _ OH.out.lt));have PG:=qh (OG.out.of_block (hbD.block _ OG.out.lt));have r0:wy.cell? ⟨bg,0,none⟩=some (.int .u64 g):=PG.out.cell (i:=0) (by omega);clear hwy hbD r1 r2 r3 r4 r5 fz w1' w2' w3' w4' w5' OW OH OG
       by_cases hz:g=0
       ·have KS:=qh (KD.out.skip (by omega) (by omega) HVV.out.2.1 HVV.out.2.2.2 (by have:=OB.out.2;omega));subst hz;go_wp2_with fail
        go_roundw
        case rel=>exact⟨j,by omega,rfl,up2,qp2,KS.out,PW.out⟩
        case measure=>simp[intOf];omega
       ·have hgz:(g==0)=false:=by simpa using hz
        go_wp2_with fail
        clear r0 hgz
        go_loopw [15] (fun lv wx=>(∃ v:Value,lv=v)∧∃ g:Int,((0≤g∧g≤999999999)∧headV up2 N j/V≤g)∧DivW w wx gu w1.heap.size gv bv N L M (N+1) up2 qp2 vp ∧
         wx.rowIs wo.heap.size 24 1 (fun _=>.slice (some ⟨gu,j,none⟩) (N+1) (L-j))∧wx.rowIs bg 108 1 (fun _=>.int .u64 g)) (fun _ wx=>boxN wx bg)
        case atStart=>exact⟨⟨_,rfl⟩,g,OB.out,PW.out,PH.out,PG.out⟩
        case round =>
         obtain⟨⟨lv,rfl⟩,g3,hg3,hW,hH,hG⟩:=hrel;have QW:=qh hW;have QH:=qh hH;have QG:=qh hG;have QB:=qh hg3;have HQ0:=qh (boxN_row hG);have r0:wr.cell? ⟨bg,0,none⟩=some (.int .u64 g3):=hG.cell (i:=0) (by omega);have r1:wr.cell? ⟨bv,0,none⟩=some (.slice (some ⟨gv,0,none⟩) N (N+1)):=hW.vb.cell (i:=0) (by omega);have r2:wr.cell? ⟨wo.heap.size,0,none⟩=some (.slice (some ⟨gu,j,none⟩) (N+1) (L-j)):=hH.cell (i:=0) (by omega);have hLe:=HEQ.out.2.1
         have hpart:∀ k,0≤part vp N k∧part vp N k≤999999999:=by
          intro k;unfold part
          split
          ·have:=HDV.out k (by omega);omega
          ·omega
         have QW':=QW
         have CA:=qh (carry_any 144 #[.pointer (some ⟨wo.heap.size,0,none⟩),.pointer (some ⟨bg,0,none⟩),.pointer (some ⟨bv,0,none⟩)] (N+1) (lessF up2 vp j N g3) (-999999999) 1 wr (by omega) cf_div
          (fun k hk v1 hb1=>divFn v1 wo.heap.size bg bv gu j N (L-j) (N+1) (some ⟨gv,0,none⟩) up2 vp g3 k ((hb1.cell (p:=⟨wo.heap.size,0,none⟩) QH.out.lt).trans r2) ((hb1.cell (p:=⟨bg,0,none⟩) QG.out.lt).trans r0) ((hb1.cell (p:=⟨bv,0,none⟩) QW.out.vb.lt).trans r1)
           ((QW.out.u.below hb1).cell (by omega)) (by omega) ((QW.out.v.less (by omega)).below hb1).rd (by omega) QB.out.1 (by have:=KD.out.udig (j+k) (by omega);omega) (hpart k))
          (fun k hk=>by
           have h1:=KD.out.udig (j+k) (by omega);have h2:=hpart k;have h3:g3*part vp N k≤999999999*999999999:=Int.mul_le_mul QB.out.1.2 h2.2 h2.1 (by omega);have h4:0≤g3*part vp N k:=Int.mul_nonneg QB.out.1.1 h2.1;unfold lessF
           omega) (by omega) (by omega) (by omega) (by omega))
         rw[show((N+1:Nat):Int)=(N:Int)+1 from rfl] at CA;have xK:=IntWalk.i64_in ((N:Int)+1) (by omega);clear hg3 hW hH hG hLe hpart;go_wp2_with fail
         refine CA.out.mono ?_;rintro e w4 ⟨rfl,hO4,hb4⟩;have RW:=qh (show DivW w w4 gu w1.heap.size gv bv N L M (N+1) up2 qp2 vp from⟨QW.out.u.below hb4,QW.out.q.below hb4,QW.out.v.below hb4,QW.out.vb.of_block (hb4.block _ QW.out.vb.lt),QW.out.bel.trans (hb4.mono QW.out.bel.size)⟩);have RH:=qh (QH.out.of_block (hb4.block _ QH.out.lt));have RG:=qh (QG.out.of_block (hb4.block _ QG.out.lt));have RO:=qh hO4;clear hO4 hb4 CA r0 r1 r2 QW QH QG;have r0:w4.cell? ⟨bg,0,none⟩=some (.int .u64 g3):=RG.out.cell (i:=0) (by omega);have r1:w4.cell? ⟨bv,0,none⟩=some (.slice (some ⟨gv,0,none⟩) N (N+1)):=RW.out.vb.cell (i:=0) (by omega);have r2:w4.cell? ⟨wo.heap.size,0,none⟩=some (.slice (some ⟨gu,j,none⟩) (N+1) (L-j)):=RH.out.cell (i:=0) (by omega);have BL:=qh (below_any (some ⟨gu,j,none⟩) (some ⟨gv,0,none⟩) (N+1) (L-j) N (N+1) (fun k=>up2 (j+k)) vp g3 w4 (Rd.at_own RW.out.u (by omega)) (RW.out.v.less (by omega)).rd (fun k hk=>KD.out.udig (j+k) (by omega)) HDV.out (by have:=HEQ.out.2.1;omega) (by have:=HEQ.out.2.1;omega) QB.out.1);rw[show sumB (fun k=>up2 (j+k)) (N+1)=headV up2 N j from rfl,HVT.out.1] at BL;go_wp2_with fail
         refine BL.out.mono ?_;rintro e w5 ⟨rfl,hb5⟩;have SW:=qh (show DivW w w5 gu w1.heap.size gv bv N L M (N+1) up2 qp2 vp from⟨RW.out.u.below hb5,RW.out.q.below hb5,RW.out.v.below hb5,RW.out.vb.of_block (hb5.block _ RW.out.vb.lt),RW.out.bel.trans (hb5.mono RW.out.bel.size)⟩);have SH:=qh (RH.out.of_block (hb5.block _ RH.out.lt));have SG:=qh (RG.out.of_block (hb5.block _ RG.out.lt));have SO:=qh (RO.out.below hb5);clear hb5 BL r0 r1 r2 RW RH RG RO;have r0:w5.cell? ⟨bg,0,none⟩=some (.int .u64 g3):=SG.out.cell (i:=0) (by omega);have r2:w5.cell? ⟨wo.heap.size,0,none⟩=some (.slice (some ⟨gu,j,none⟩) (N+1) (L-j)):=SH.out.cell (i:=0) (by omega);have fz:=SG.out.frozen;have HNE:=qh (show(gu≠bg∧w1.heap.size≠bg∧gv≠bg∧bv≠bg)∧w.heap.size≤bg∧wo.heap.size≠bg∧gu<wr.heap.size by have:=HSZ.out;have:=HB2.out;have:=KW.out.bel.size;have:=HDIS.out;have:=(QW'.out.u.blk rfl).2.2;dsimp only at this;omega)
         by_cases hlt3:headV up2 N j<V*g3
         ·have hh0:=HH.out.1
          have hgp:1≤g3:=by
           rcases Int.lt_or_le 0 g3 with h | h
           ·omega
           ·have:=QB.out.1.1;rw[show g3=0 by omega,Int.mul_zero] at hlt3;omega
          have w8':=IntWalk.u64_in (g3-1) (by have:=QB.out.1;omega);have HGL:=qh (And.intro (guess_less HVV.out.2.2.2 QB.out.2 hlt3) hgp);clear hh0 hgp;go_wp2_with fail
          go_roundw
          case rel=>exact⟨⟨_,rfl⟩,g3-1,⟨⟨by have:=HGL.out.2;omega,by have:=QB.out.1;omega⟩,HGL.out.1⟩,SW.out.setBox HNE.out.1 HNE.out.2.1 _,World.rowIs.setOther (a:=⟨bg,0,none⟩) SH.out HNE.out.2.2.1 _,(SG.out.set 0 _).congr (fun i hi=>by rw[if_pos (by omega)])⟩
          case measure =>
           have e1:=boxN_row ((SG.out.set 0 (.int .u64 (g3-1))).congr (g:=fun _=>.int .u64 (g3-1)) (fun i hi=>by rw[if_pos (by omega)]));rw[e1,HQ0.out];have:=HGL.out.2;omega
         ·obtain⟨gr1,gr2,gr3⟩:=guess_right HVV.out.2.2.2 QB.out.2 hlt3;have hLe:=HEQ.out.2.1
          have hsum:sumB (cD (lessF up2 vp j N g3)) (N+1)=headV up2 N j-V*g3:=by
           have h1:=lessF_sum up2 vp j N g3;rw[HVT.out.1] at h1;rw[(cS_fits (by rw[h1];exact gr2) (by rw[h1,pw_succ,Int.natCast_mul];have:=HVV.out.2.1;omega)).2,h1]
          have ST:=qh (KD.out.step (g:=g3) (r:=cD (lessF up2 vp j N g3)) (by omega) (by omega) HVV.out.2.1 HVV.out.2.2.2 (by have:=QB.out.1;omega) (cD_Dig _ _) hsum gr3);obtain⟨vc,w6,hrun,hown6,hgrow⟩:=copy_own (r:=cD (lessF up2 vp j N g3)) SW.out.u (i:=j) (m:=N+1) (by omega) (by omega) SO.out.rd 3 (L-j) (N+1);have HO6:=qh hown6;have HG6:=qh hgrow;have w7':=IntWalk.u32_in g3 (by have:=QB.out.1;omega);have hsz6:=SW.out.bel.size;have TG:=qh (SG.out.of_block (hgrow.block bg SG.out.lt (fun e=>by have:=HNE.out.1.1;cases e;contradiction)));have TQ:=qh (SW.out.q.keep fun p hp=>hgrow.block _ (SW.out.q.blk hp).2.2 (fun e=>by have:=HDIS.out;have:=(KW.out.u.blk rfl).2.2;cases hp;cases e;have h9:=HDIS.out.2.1;dsimp only at *;omega));have r5:w6.cell? ⟨bg,0,none⟩=some (.int .u64 g3):=TG.out.cell (i:=0) (by omega);obtain⟨vo,r6⟩:∃ vo,w6.cell? ⟨w1.heap.size,j,none⟩=some vo:=⟨_,TQ.out.cell (by omega)⟩;have fq:=TQ.out.fz;clear hown6 hgrow gr1 gr2 gr3 hsum hLe
          have HF:=qh (show DivW w (w6.setCell ⟨w1.heap.size,j,none⟩ (.int .u32 g3)) gu w1.heap.size gv bv N L M (N+1) (splice up2 j (N+1) (cD (lessF up2 vp j N g3))) (upd qp2 j g3) vp from by
           have hd:=HDIS.out
           have hv6:=SW.out.v.keep (w':=w6) fun p hp=>HG6.out.block _ (SW.out.v.blk hp).2.2 (fun e=>by cases hp;cases e;exact hd.1.1 rfl)
           have hb6:=SW.out.vb.of_block (w':=w6) (HG6.out.block _ SW.out.vb.lt (fun e=>by cases e;exact hd.1.2.1 rfl));have hl6:Below w.heap.size w w6:=SW.out.bel.grown HG6.out SW.out.bel.size (fun k hk=>by cases hk;exact(SW.out.u.blk rfl).2.1)
           refine⟨HO6.out.keep fun p hp=>Below.heap_setCell _ _ _ _ (by cases hp;dsimp only;omega),TQ.out.put (by omega) (by have:=QB.out.1;omega),hv6.keep fun p hp=>Below.heap_setCell _ _ _ _ (by cases hp;dsimp only;omega),hb6.setOther (by dsimp only;omega) _,hl6.setCell (p:=⟨w1.heap.size,j,none⟩) (TQ.out.blk rfl).2.1 _⟩)
          go_wp2_with fail
          go_roundw
          case rel=>exact⟨j,by omega,rfl,_,_,ST.out,HF.out⟩
          case measure=>simp[intOf];omega
     ·have hge:¬ov<1000000000:=hlt;have hdb:decide (ov<1000000000)=false:=decide_eq_false hlt;go_wp2_with fail
      go_quiet (fail);obtain⟨wy,hwy⟩:∃ wy,wy=wr.drewN nq:=⟨_,rfl⟩;rw[← hwy]
      have hbD:Below wr.heap.size wr wy:=by rw[hwy];exact bdrewN (Below.refl _ _) nq
      have PW:=qh (show DivW w wy gu w1.heap.size gv bv N L M (N+1) up2 qp2 vp from⟨OW.out.u.below hbD,OW.out.q.below hbD,OW.out.v.below hbD,OW.out.vb.of_block (hbD.block _ OW.out.vb.lt),OW.out.bel.trans (hbD.mono OW.out.bel.size)⟩);have PH:=qh (OH.out.of_block (hbD.block _ OH.out.lt));have PG:=qh (OG.out.of_block (hbD.block _ OG.out.lt));have r0:wy.cell? ⟨bg,0,none⟩=some (.int .u64 g):=PG.out.cell (i:=0) (by omega);clear hwy hbD r1 r2 r3 r4 r5 fz w1' w2' w3' w4' w5' OW OH OG
      by_cases hz:g=0
      ·have KS:=qh (KD.out.skip (by omega) (by omega) HVV.out.2.1 HVV.out.2.2.2 (by have:=OB.out.2;omega));subst hz;go_wp2_with fail
       go_roundw
       case rel=>exact⟨j,by omega,rfl,up2,qp2,KS.out,PW.out⟩
       case measure=>simp[intOf];omega
      ·have hgz:(g==0)=false:=by simpa using hz
       go_wp2_with fail
       clear r0 hgz
       go_loopw [15] (fun lv wx=>(∃ v:Value,lv=v)∧∃ g:Int,((0≤g∧g≤999999999)∧headV up2 N j/V≤g)∧DivW w wx gu w1.heap.size gv bv N L M (N+1) up2 qp2 vp ∧
        wx.rowIs wo.heap.size 24 1 (fun _=>.slice (some ⟨gu,j,none⟩) (N+1) (L-j))∧wx.rowIs bg 108 1 (fun _=>.int .u64 g)) (fun _ wx=>boxN wx bg)
       case atStart=>exact⟨⟨_,rfl⟩,g,OB.out,PW.out,PH.out,PG.out⟩
       case round =>
        obtain⟨⟨lv,rfl⟩,g3,hg3,hW,hH,hG⟩:=hrel;have QW:=qh hW;have QH:=qh hH;have QG:=qh hG;have QB:=qh hg3;have HQ0:=qh (boxN_row hG);have r0:wr.cell? ⟨bg,0,none⟩=some (.int .u64 g3):=hG.cell (i:=0) (by omega);have r1:wr.cell? ⟨bv,0,none⟩=some (.slice (some ⟨gv,0,none⟩) N (N+1)):=hW.vb.cell (i:=0) (by omega);have r2:wr.cell? ⟨wo.heap.size,0,none⟩=some (.slice (some ⟨gu,j,none⟩) (N+1) (L-j)):=hH.cell (i:=0) (by omega);have hLe:=HEQ.out.2.1
        have hpart:∀ k,0≤part vp N k∧part vp N k≤999999999:=by
         intro k;unfold part
         split
         ·have:=HDV.out k (by omega);omega
         ·omega
        have QW':=QW
        have CA:=qh (carry_any 144 #[.pointer (some ⟨wo.heap.size,0,none⟩),.pointer (some ⟨bg,0,none⟩),.pointer (some ⟨bv,0,none⟩)] (N+1) (lessF up2 vp j N g3) (-999999999) 1 wr (by omega) cf_div
         (fun k hk v1 hb1=>divFn v1 wo.heap.size bg bv gu j N (L-j) (N+1) (some ⟨gv,0,none⟩) up2 vp g3 k ((hb1.cell (p:=⟨wo.heap.size,0,none⟩) QH.out.lt).trans r2) ((hb1.cell (p:=⟨bg,0,none⟩) QG.out.lt).trans r0) ((hb1.cell (p:=⟨bv,0,none⟩) QW.out.vb.lt).trans r1)
          ((QW.out.u.below hb1).cell (by omega)) (by omega) ((QW.out.v.less (by omega)).below hb1).rd (by omega) QB.out.1 (by have:=KD.out.udig (j+k) (by omega);omega) (hpart k))
         (fun k hk=>by
          have h1:=KD.out.udig (j+k) (by omega);have h2:=hpart k;have h3:g3*part vp N k≤999999999*999999999:=Int.mul_le_mul QB.out.1.2 h2.2 h2.1 (by omega);have h4:0≤g3*part vp N k:=Int.mul_nonneg QB.out.1.1 h2.1;unfold lessF
          omega) (by omega) (by omega) (by omega) (by omega))
        rw[show((N+1:Nat):Int)=(N:Int)+1 from rfl] at CA;have xK:=IntWalk.i64_in ((N:Int)+1) (by omega);clear hg3 hW hH hG hLe hpart;go_wp2_with fail
        refine CA.out.mono ?_;rintro e w4 ⟨rfl,hO4,hb4⟩;have RW:=qh (show DivW w w4 gu w1.heap.size gv bv N L M (N+1) up2 qp2 vp from⟨QW.out.u.below hb4,QW.out.q.below hb4,QW.out.v.below hb4,QW.out.vb.of_block (hb4.block _ QW.out.vb.lt),QW.out.bel.trans (hb4.mono QW.out.bel.size)⟩);have RH:=qh (QH.out.of_block (hb4.block _ QH.out.lt));have RG:=qh (QG.out.of_block (hb4.block _ QG.out.lt));have RO:=qh hO4;clear hO4 hb4 CA r0 r1 r2 QW QH QG;have r0:w4.cell? ⟨bg,0,none⟩=some (.int .u64 g3):=RG.out.cell (i:=0) (by omega);have r1:w4.cell? ⟨bv,0,none⟩=some (.slice (some ⟨gv,0,none⟩) N (N+1)):=RW.out.vb.cell (i:=0) (by omega);have r2:w4.cell? ⟨wo.heap.size,0,none⟩=some (.slice (some ⟨gu,j,none⟩) (N+1) (L-j)):=RH.out.cell (i:=0) (by omega);have BL:=qh (below_any (some ⟨gu,j,none⟩) (some ⟨gv,0,none⟩) (N+1) (L-j) N (N+1) (fun k=>up2 (j+k)) vp g3 w4 (Rd.at_own RW.out.u (by omega)) (RW.out.v.less (by omega)).rd (fun k hk=>KD.out.udig (j+k) (by omega)) HDV.out (by have:=HEQ.out.2.1;omega) (by have:=HEQ.out.2.1;omega) QB.out.1);rw[show sumB (fun k=>up2 (j+k)) (N+1)=headV up2 N j from rfl,HVT.out.1] at BL;go_wp2_with fail
        refine BL.out.mono ?_;rintro e w5 ⟨rfl,hb5⟩;have SW:=qh (show DivW w w5 gu w1.heap.size gv bv N L M (N+1) up2 qp2 vp from⟨RW.out.u.below hb5,RW.out.q.below hb5,RW.out.v.below hb5,RW.out.vb.of_block (hb5.block _ RW.out.vb.lt),RW.out.bel.trans (hb5.mono RW.out.bel.size)⟩);have SH:=qh (RH.out.of_block (hb5.block _ RH.out.lt));have SG:=qh (RG.out.of_block (hb5.block _ RG.out.lt));have SO:=qh (RO.out.below hb5);clear hb5 BL r0 r1 r2 RW RH RG RO;have r0:w5.cell? ⟨bg,0,none⟩=some (.int .u64 g3):=SG.out.cell (i:=0) (by omega);have r2:w5.cell? ⟨wo.heap.size,0,none⟩=some (.slice (some ⟨gu,j,none⟩) (N+1) (L-j)):=SH.out.cell (i:=0) (by omega);have fz:=SG.out.frozen;have HNE:=qh (show(gu≠bg∧w1.heap.size≠bg∧gv≠bg∧bv≠bg)∧w.heap.size≤bg∧wo.heap.size≠bg∧gu<wr.heap.size by have:=HSZ.out;have:=HB2.out;have:=KW.out.bel.size;have:=HDIS.out;have:=(QW'.out.u.blk rfl).2.2;dsimp only at this;omega)
        by_cases hlt3:headV up2 N j<V*g3
        ·have hh0:=HH.out.1
         have hgp:1≤g3:=by
          rcases Int.lt_or_le 0 g3 with h | h
          ·omega
          ·have:=QB.out.1.1;rw[show g3=0 by omega,Int.mul_zero] at hlt3;omega
         have w8':=IntWalk.u64_in (g3-1) (by have:=QB.out.1;omega);have HGL:=qh (And.intro (guess_less HVV.out.2.2.2 QB.out.2 hlt3) hgp);clear hh0 hgp;go_wp2_with fail
         go_roundw
         case rel=>exact⟨⟨_,rfl⟩,g3-1,⟨⟨by have:=HGL.out.2;omega,by have:=QB.out.1;omega⟩,HGL.out.1⟩,SW.out.setBox HNE.out.1 HNE.out.2.1 _,World.rowIs.setOther (a:=⟨bg,0,none⟩) SH.out HNE.out.2.2.1 _,(SG.out.set 0 _).congr (fun i hi=>by rw[if_pos (by omega)])⟩
         case measure =>
          have e1:=boxN_row ((SG.out.set 0 (.int .u64 (g3-1))).congr (g:=fun _=>.int .u64 (g3-1)) (fun i hi=>by rw[if_pos (by omega)]));rw[e1,HQ0.out];have:=HGL.out.2;omega
        ·obtain⟨gr1,gr2,gr3⟩:=guess_right HVV.out.2.2.2 QB.out.2 hlt3;have hLe:=HEQ.out.2.1
         have hsum:sumB (cD (lessF up2 vp j N g3)) (N+1)=headV up2 N j-V*g3:=by
          have h1:=lessF_sum up2 vp j N g3;rw[HVT.out.1] at h1;rw[(cS_fits (by rw[h1];exact gr2) (by rw[h1,pw_succ,Int.natCast_mul];have:=HVV.out.2.1;omega)).2,h1]
         have ST:=qh (KD.out.step (g:=g3) (r:=cD (lessF up2 vp j N g3)) (by omega) (by omega) HVV.out.2.1 HVV.out.2.2.2 (by have:=QB.out.1;omega) (cD_Dig _ _) hsum gr3);obtain⟨vc,w6,hrun,hown6,hgrow⟩:=copy_own (r:=cD (lessF up2 vp j N g3)) SW.out.u (i:=j) (m:=N+1) (by omega) (by omega) SO.out.rd 3 (L-j) (N+1);have HO6:=qh hown6;have HG6:=qh hgrow;have w7':=IntWalk.u32_in g3 (by have:=QB.out.1;omega);have hsz6:=SW.out.bel.size;have TG:=qh (SG.out.of_block (hgrow.block bg SG.out.lt (fun e=>by have:=HNE.out.1.1;cases e;contradiction)));have TQ:=qh (SW.out.q.keep fun p hp=>hgrow.block _ (SW.out.q.blk hp).2.2 (fun e=>by have:=HDIS.out;have:=(KW.out.u.blk rfl).2.2;cases hp;cases e;have h9:=HDIS.out.2.1;dsimp only at *;omega));have r5:w6.cell? ⟨bg,0,none⟩=some (.int .u64 g3):=TG.out.cell (i:=0) (by omega);obtain⟨vo,r6⟩:∃ vo,w6.cell? ⟨w1.heap.size,j,none⟩=some vo:=⟨_,TQ.out.cell (by omega)⟩;have fq:=TQ.out.fz;clear hown6 hgrow gr1 gr2 gr3 hsum hLe
         have HF:=qh (show DivW w (w6.setCell ⟨w1.heap.size,j,none⟩ (.int .u32 g3)) gu w1.heap.size gv bv N L M (N+1) (splice up2 j (N+1) (cD (lessF up2 vp j N g3))) (upd qp2 j g3) vp from by
          have hd:=HDIS.out
          have hv6:=SW.out.v.keep (w':=w6) fun p hp=>HG6.out.block _ (SW.out.v.blk hp).2.2 (fun e=>by cases hp;cases e;exact hd.1.1 rfl)
          have hb6:=SW.out.vb.of_block (w':=w6) (HG6.out.block _ SW.out.vb.lt (fun e=>by cases e;exact hd.1.2.1 rfl));have hl6:Below w.heap.size w w6:=SW.out.bel.grown HG6.out SW.out.bel.size (fun k hk=>by cases hk;exact(SW.out.u.blk rfl).2.1)
          refine⟨HO6.out.keep fun p hp=>Below.heap_setCell _ _ _ _ (by cases hp;dsimp only;omega),TQ.out.put (by omega) (by have:=QB.out.1;omega),hv6.keep fun p hp=>Below.heap_setCell _ _ _ _ (by cases hp;dsimp only;omega),hb6.setOther (by dsimp only;omega) _,hl6.setCell (p:=⟨w1.heap.size,j,none⟩) (TQ.out.blk rfl).2.1 _⟩)
         go_wp2_with fail
         go_roundw
         case rel=>exact⟨j,by omega,rfl,_,_,ST.out,HF.out⟩
         case measure=>simp[intOf];omega
theorem top_any (a:Option Addr) (n c m:Nat) (o:Nat→Int) (w:World) (hx:Rd w a n o) (dx:Dig o n) (hn:n≤200000000) (hm:m<n) :
  Calls Tryz.prog 154 #[.slice a n c,.int .i64 ((m:Int)+1)] w fun e w'=>e=.returned (.int .u64 (topF o n m))∧w'=w:=by
 obtain⟨b,off,rfl,hc⟩:=hx.cells (by omega);have c1:=hc m hm;have d1:=dx m hm;have w1:=IntWalk.u64_in (o m) (by omega)
 by_cases h:m+1<n
 ·have c2:=hc (m+1) h;have d2:=dx (m+1) h;have w2:=IntWalk.u64_in (o (m+1)) (by omega);have w3:=IntWalk.u64_in (1000000000*o (m+1)) (by omega);have w4:=IntWalk.u64_in (1000000000*o (m+1)+o m) (by omega);have E:=qh (show topF o n m=1000000000*o (m+1)+o m by unfold topF part;rw[if_pos h,if_pos hm])
  have h1:(m:Int)+1<(n:Int):=by omega
  have h2:(m:Int)<(n:Int):=by omega
  have e1:(m:Int)+1-1=(m:Int):=by omega
  have e2:((m:Int)+1).toNat=m+1:=by omega
  have x1:=IntWalk.i64_in ((m:Int)+1-1) (by omega)
  have h0:0≤(m:Int)+1:=by omega
  clear hc hx;go_enter Tryz.func154,Tryz.ntmps154;go_wp2;go_ret;exact⟨by rw[E.out];rfl,rfl⟩
 ·have w3:=IntWalk.u64_in (0+o m) (by omega);have E:=qh (show topF o n m=o m by unfold topF part;rw[if_neg h,if_pos hm];omega)
  have h1:¬(m:Int)+1<(n:Int):=by omega
  have h2:(m:Int)<(n:Int):=by omega
  have e1:(m:Int)+1-1=(m:Int):=by omega
  have x1:=IntWalk.i64_in ((m:Int)+1-1) (by omega);clear hc hx;go_enter Tryz.func154,Tryz.ntmps154;go_wp2;go_ret;exact⟨by rw[E.out];rfl,rfl⟩
def Only (g:Nat) (w w':World):Prop:=(∀ k,k≠g→w'.heap[k]?=w.heap[k]?)∧w'.heap.size=w.heap.size
theorem Only.refl (g:Nat) (w:World):Only g w w:=⟨fun _ _=>rfl,rfl⟩
theorem Only.set {g:Nat} {w w':World} (h:Only g w w') (i:Nat) (v:Value):Only g w (w'.setCell ⟨g,i,none⟩ v) :=
 ⟨fun k hk=>(Below.heap_setCell _ _ _ _ hk).trans (h.1 k hk),by rw[World.size_setCell];exact h.2⟩
theorem Rd.only {g:Nat} {w w':World} {a:Option Addr} {n:Nat} {o:Nat→Int} (h:Rd w a n o) (ho:Only g w w') (hg:0<n→∀ p,a=some p→p.block≠g):Rd w' a n o:=by
 refine⟨fun hn=>?_,h.rng⟩;obtain⟨b,off,ha,hc⟩:=h.cells hn;exact⟨b,off,ha,fun i hi=>(World.cell?_of_block (ho.1 b (hg hn _ ha))).trans (hc i hi)⟩
theorem upd_upd (o:Nat→Int) (j:Nat) (u v:Int):upd (upd o j u) j v=upd o j v:=by
 funext i
 unfold upd
 split <;> rfl
theorem takes_any (g n cap base at' lb cb m:Nat) (b:Option Addr) (p ob:Nat→Int) (often:Int) (w:World) (hp:Own 44 w base (some ⟨g,0,none⟩) n cap p) (hb:Rd w b lb ob) (hbg:0<lb→∀ q,b=some q→q.block≠g)
  (dp:Dig p n) (db:Dig ob lb) (hn:n=at' + m) (hn2:n≤200000000) (hm:lb≤m) (ho:0≤often∧often≤999999999) :
  Calls Tryz.prog 155 #[.slice (some ⟨g,0,none⟩) n cap,.slice b lb cb,.int .i64 (at':Int),.int .u64 often] w fun e w'=>e=.returned (.tuple #[]) ∧
   Own 44 w' base (some ⟨g,0,none⟩) n cap (takeF p ob lb at' often m)∧Only g w w'∧Below base w w':=by
 have HP:=qh hp;have HB:=qh hb;have DP:=qh dp;have DB:=qh db;have HBG:=qh hbg;have HN:=qh hn;have HBS:=qh (hp.blk rfl).2.1;clear hp hb dp db hbg hn;go_enter Tryz.func155,Tryz.ntmps155;go_wp2_with fail
 go_loopw [8,9] (fun ow i wr=>∃ k:Nat,k≤m∧i=.int .i64 k∧ow=.int .u64 (- cS (offF p ob at' lb often) k)∧Own 44 wr base (some ⟨g,0,none⟩) n cap (takeF p ob lb at' often k)∧Only g w wr∧Below base w wr) (fun _ i _=>m-(intOf i).toNat)
 case atStart=>exact⟨0,by omega,rfl,rfl,by rw[takeF_zero];exact HP.out,Only.refl _ _,Below.refl _ _⟩
 case round =>
  obtain⟨k,hk,rfl,rfl,hO,hOn,hBl⟩:=hrel;have HO:=qh hO;have HON:=qh hOn;have HBL:=qh hBl;clear hO hOn hBl;have hnn:=HN.out;have x0:=IntWalk.i64_in ((at':Int)+(k:Int)) (by omega)
  by_cases hkm:k<m
  ·have hlt:at' + k<n:=by omega
   have hlt':(at':Int)+(k:Int)<(n:Int):=by omega
   have etn:((at':Int)+(k:Int)).toNat=at' + k:=by omega
   have h0':0≤(at':Int)+(k:Int):=by omega
   obtain⟨x,hx⟩:∃ x,x=p (at' + k):=⟨_,rfl⟩
   have hxb:0≤x∧x<1000000000:=by rw[hx];exact DP.out _ hlt
   have cx:wr.cell? ⟨g,at' + k,none⟩=some (.int .u32 x):=by
    have:=HO.out.cell (i:=at' + k) (by omega);rw[this,takeF_here,hx]
   have fx:=HO.out.fz;obtain⟨D,hD⟩:∃ D,D = - cS (offF p ob at' lb often) k:=⟨_,rfl⟩;obtain⟨y,hy⟩:∃ y,y=part ob lb k:=⟨_,rfl⟩
   have hpart:∀ j,0≤part ob lb j∧part ob lb j≤999999999:=by
    intro j;unfold part
    split
    ·have:=DB.out j (by omega);omega
    ·omega
   have hyb:0≤y∧y≤999999999:=by rw[hy];exact hpart k
   have hoy:0≤often*y∧often*y≤999999999*999999999:=⟨Int.mul_nonneg ho.1 hyb.1,Int.mul_le_mul ho.2 hyb.2 hyb.1 (by omega)⟩
   have hcs:=cS_neg (f:=offF p ob at' lb often) (lo:=-999999999) (n:=k) (by omega) (fun i hi=>by
    have h1:=DP.out (at' + i) (by omega);have h2:=hpart i;have h3:often*part ob lb i≤999999999*999999999:=Int.mul_le_mul ho.2 h2.2 h2.1 (by omega);have h4:0≤often*part ob lb i:=Int.mul_nonneg ho.1 h2.1;unfold offF
    omega)
   have hDb:0≤D∧D≤999999999:=by omega
   have eF:offF p ob at' lb often k=x-often*y:=by rw[hx,hy];rfl
   have e1:cS (offF p ob at' lb often) (k+1)=(x-(D+often*y))/1000000000:=by rw[cS,eF];congr 1;omega
   have e2:cD (offF p ob at' lb often) k=(x-(D+often*y))%1000000000:=by unfold cD;rw[eF];congr 1;omega
   clear eF;obtain⟨t,ht⟩:∃ t,t=D+often*y:=⟨_,rfl⟩
   have htb:0≤t∧t≤999999999999999999:=by omega
   rw[← ht] at e1 e2;obtain⟨s1,s2⟩:=take_step (a:=x) (n:=t) hxb htb.1;rw[← e1,← e2] at s1 s2;have ES:=qh (takeF_succ p ob lb at' often k);have HCD:=qh (cD_Dig (offF p ob at' lb often) (k+1) k (by omega));obtain⟨cd,hcd⟩:∃ cd,cd=cD (offF p ob at' lb often) k:=⟨_,rfl⟩;obtain⟨c',hc'⟩:∃ c',c' = - cS (offF p ob at' lb often) (k+1):=⟨_,rfl⟩;rw[← hcd,← hc'] at s1 s2;rw[← hcd] at ES HCD;clear hcd;obtain⟨tm,htm⟩:∃ tm,tm=t%1000000000:=⟨_,rfl⟩;obtain⟨td,htd⟩:∃ td,td=t/1000000000:=⟨_,rfl⟩;rw[← htm,← htd] at s1 s2
   have r1:t.tmod 1000000000=tm:=by rw[Int.tmod_eq_emod_of_nonneg htb.1,htm]
   have r2:t.tdiv 1000000000=td:=by rw[Int.tdiv_eq_ediv_of_nonneg htb.1,htd]
   have tmb:0≤tm∧tm≤999999999:=by omega
   have tdb:0≤td∧td≤999999999:=by omega
   have w1:=IntWalk.u64_in tm (by omega);have w2:=IntWalk.u32_in tm (by omega);have w3:=IntWalk.u64_in td (by omega);have w4:=IntWalk.u32_in (x+1000000000) (by omega);have w5:=IntWalk.u64_in (td+1) (by omega);have HC':=qh hc';rw[← hD];have HT:=qh (And.intro ht (And.intro hy hyb));clear e1 e2 hcs hpart hD htm htd hc' hx
   by_cases hkl:k<lb
   ·have hkl':(k:Int)<(lb:Int):=by omega
    obtain⟨bb,bo,rfl,hcb⟩:=(HB.out.only HON.out HBG.out).cells (by omega)
    have cy:wr.cell? ⟨bb,bo+k,none⟩=some (.int .u32 y):=by
     rw[hcb k hkl,hy];show some (Value.int .u32 (ob k))=some (.int .u32 (part ob lb k));unfold part;rw[if_pos hkl]
    have wy:=IntWalk.u64_in y (by omega);have wo1:=IntWalk.u64_in (often*y) (by omega);have wo2:=IntWalk.u64_in (D+often*y) (by omega);rw[← ht] at wo2;have et:D+often*y=t:=ht.symm;clear hcb hy ht
    by_cases hxt:x<tm
    ·obtain⟨s1a,s1b⟩:=s1 hxt;have w6:=IntWalk.u32_in (x+1000000000-tm) (by omega);rw[s1a] at w6;rw[s1b] at w5;have S1:=qh (And.intro s1a s1b);have O1:=qh (HO.out.put (t:=at' + k) (v:=x+1000000000) hlt (by omega));have O2:=qh (O1.out.put (t:=at' + k) (v:=cd) hlt (by have:=HCD.out;omega));have hcd0:=HCD.out;clear s1 s2;go_wp2_with fail
     go_roundw
     case rel=>exact⟨k+1,by omega,by go_num,by rw[HC'.out],by rw[← ES.out,← upd_upd _ _ (x+1000000000) cd];exact O2.out,(HON.out.set _ _).set _ _,(HBL.out.setCell HBS.out _).setCell HBS.out _⟩
     case measure=>simp[intOf];omega
    ·obtain⟨s1a,s1b⟩:=s2 hxt;have w6:=IntWalk.u32_in (x-tm) (by omega);rw[s1a] at w6;have S1:=qh (And.intro s1a s1b);have O2:=qh (HO.out.put (t:=at' + k) (v:=cd) hlt (by have:=HCD.out;omega));clear s1 s2;go_wp2_with fail
     go_roundw
     case rel=>exact⟨k+1,by omega,by go_num,by rw[HC'.out],by rw[← ES.out];exact O2.out,HON.out.set _ _,HBL.out.setCell HBS.out _⟩
     case measure=>simp[intOf];omega
   ·have hkl':¬(k:Int)<(lb:Int):=by omega
    have hy0:y=0:=by rw[hy];unfold part;rw[if_neg hkl]
    have et:D=t:=by rw[ht,hy0,Int.mul_zero];omega
    subst et;clear hy ht
    by_cases hxt:x<tm
    ·obtain⟨s1a,s1b⟩:=s1 hxt;have w6:=IntWalk.u32_in (x+1000000000-tm) (by omega);rw[s1a] at w6;rw[s1b] at w5;have S1:=qh (And.intro s1a s1b);have O1:=qh (HO.out.put (t:=at' + k) (v:=x+1000000000) hlt (by omega));have O2:=qh (O1.out.put (t:=at' + k) (v:=cd) hlt (by have:=HCD.out;omega));have hcd0:=HCD.out;clear s1 s2;go_wp2_with fail
     go_roundw
     case rel=>exact⟨k+1,by omega,by go_num,by rw[HC'.out],by rw[← ES.out,← upd_upd _ _ (x+1000000000) cd];exact O2.out,(HON.out.set _ _).set _ _,(HBL.out.setCell HBS.out _).setCell HBS.out _⟩
     case measure=>simp[intOf];omega
    ·obtain⟨s1a,s1b⟩:=s2 hxt;have w6:=IntWalk.u32_in (x-tm) (by omega);rw[s1a] at w6;have S1:=qh (And.intro s1a s1b);have O2:=qh (HO.out.put (t:=at' + k) (v:=cd) hlt (by have:=HCD.out;omega));clear s1 s2;go_wp2_with fail
     go_roundw
     case rel=>exact⟨k+1,by omega,by go_num,by rw[HC'.out],by rw[← ES.out];exact O2.out,HON.out.set _ _,HBL.out.setCell HBS.out _⟩
     case measure=>simp[intOf];omega
  ·obtain rfl:k=m:=by omega
   have hlt':¬(at':Int)+(k:Int)<(n:Int):=by omega
   clear hnn;go_wp2_with fail
   go_end0;exact⟨rfl,HO.out,HON.out,HBL.out⟩
end Go.Proofs.YtjcmanikkcfnmaaGreat.Limb
namespace Go.Fresh
open Go.RowKit
variable {P:Program} {ops:Array Oper} {md:Region.Mode} {C:World→Prop}
end Go.Fresh
namespace Go.Proofs.YtjcmanikkcfnmaaGreat.Limb
open Go.RowKit Go.Sort Go.Fresh
structure Num1 where
 b:Nat
 s:Bool
 a:Option Addr
 n:Nat
 c:Nat
 o:Nat→Int
def Good (lo:Nat) (w:World) (x:Num1):Prop:=Bx w x.b 26 (.bool x.s) (.slice x.a x.n x.c)∧Own 44 w lo x.a x.n x.c x.o
def Asunder (x y:Num1):Prop:=∀ p q,x.a=some p→y.a=some q→p.block≠q.block
def All (lo:Nat) (w:World) (L:List Num1):Prop:=(∀ x∈L,Good lo w x)∧L.Pairwise Asunder
theorem Bx.new4 (w:World) (p q r:Obj) (t:TypeId) (x y:Value):Bx ((((w.alloc p).alloc q).alloc r).alloc (.cells #[x,y] t)) (w.heap.size+1+1+1) t x y:=by
 have h:=Bx.new (((w.alloc p).alloc q).alloc r) t x y;simp only[World.size_alloc] at h;exact h
theorem results_cct {P:Program} {fn:Func} {p q t:Tmp} {ty:TypeId} (h:fn.results=#[.cell p ty,.cell q ty,.tmp t]) (tmps:Array Value) (w:World) (g g2:Nat) (ta tb:TypeId) (cs cs2:Array Value) (fr fr2:Nat × Nat) (d:TypeDesc)
  (hp:tmps.getD p undef=.pointer (some ⟨g,0,none⟩)) (hg:w.heap[g]?=some (.cells cs ta fr)) (hq:tmps.getD q undef=.pointer (some ⟨g2,0,none⟩)) (hg2:w.heap[g2]?=some (.cells cs2 tb fr2))
  (hu:P.underlying ty=some d) (hd:(match d with | .struct _ | .array _ _=>true | _=>false)=true) (hi:(P.info? ty).map (·.size)=some cs.size) (hi2:(P.info? ty).map (·.size)=some cs2.size) :
  (results fn tmps).run P w=.ok (.tuple #[.agg cs,.agg cs2,tmps.getD t undef]) w:=by
 have hp':tmps[p]?.getD undef=.pointer (some ⟨g,0,none⟩):=by simpa using hp
 have hq':tmps[q]?.getD undef=.pointer (some ⟨g2,0,none⟩):=by simpa using hq
 simp[results,h,hp',hq',asAddr,run_loadVar_row w g ta ty cs fr d hg hu hd hi,run_loadVar_row w g2 tb ty cs2 fr2 d hg2 hu hd hi2]
def Apart2 (a b:Option Addr):Prop:=∀ p q,a=some p→b=some q→p.block≠q.block
def DivR (w:World) (x y:Int) (e:Ending) (w':World):Prop :=
 ∃ aq ar,e=.returned (.tuple #[numV (decide (x/y<0)) aq (lenB (x/y).natAbs) (lenB (x/y).natAbs),numV (decide (x%y<0)) ar (lenB (x%y).natAbs) (lenB (x%y).natAbs),.int .i64 0]) ∧
  Own 44 w' w.heap.size aq (lenB (x/y).natAbs) (lenB (x/y).natAbs) (dgi (x/y).natAbs)∧Own 44 w' w.heap.size ar (lenB (x%y).natAbs) (lenB (x%y).natAbs) (dgi (x%y).natAbs) ∧
  Apart2 aq ar∧(aq=none→lenB (x/y).natAbs=0)∧(ar=none→lenB (x%y).natAbs=0)∧Below w.heap.size w w'
structure AmtO (w:World) (lo:Nat) (a:Option Addr) (K c N:Nat) (o:Nat→Int):Prop where
 own:Own 44 w lo a K c o
 dig:Dig o K
 sum:sumB o K=(N:Int)
 le:K≤100000001
 nil:a=none→c=0
theorem AmtO.below {w w':World} {lo:Nat} {a:Option Addr} {K c N:Nat} {o:Nat→Int} (h:AmtO w lo a K c N o) (hb:Below w.heap.size w w'):AmtO w' lo a K c N o:=⟨h.own.below hb,h.dig,h.sum,h.le,h.nil⟩
theorem AmtO.other {w:World} {lo:Nat} {a:Option Addr} {K c N:Nat} {o:Nat→Int} (h:AmtO w lo a K c N o) {p:Addr} (hp:p.block<lo) (v:Value):AmtO (w.setCell p v) lo a K c N o:=⟨h.own.other hp v,h.dig,h.sum,h.le,h.nil⟩
theorem AmtO.num {w:World} {lo:Nat} {a:Option Addr} {K c N:Nat} {o:Nat→Int} (h:AmtO w lo a K c N o):Own 44 w lo a (lenB N) (lenB N) (dgi N):=by
 have hs:(sumB o K).toNat=N:=by rw[h.sum];omega
 have hl:=lenB_le_of h.dig;rw[hs] at hl
 refine h.own.cut hl fun i hi=>?_
 have:=dg_sumB h.dig i (by omega);rw[hs] at this;exact this.symm
theorem AmtO.none {w:World} {lo:Nat} {a:Option Addr} {K c N:Nat} {o:Nat→Int} (h:AmtO w lo a K c N o) (ha:a=none):lenB N=0:=by
 have hs:(sumB o K).toNat=N:=by rw[h.sum];omega
 have hl:=lenB_le_of h.dig;rw[hs] at hl;have h1:=h.nil ha;have h2:=h.own.le;omega
theorem cut_amt (s sB:Bool) (a:Option Addr) (K c N lo:Nat) (o:Nat→Int) (w:World) (h:AmtO w lo a K c N o) (hB:(s&&decide (0<lenB N))=sB) :
  Calls Tryz.prog 95 #[.bool s,.slice a K c] w fun e w'=>e=.returned (numV sB a (lenB N) (lenB N))∧Own 44 w' lo a (lenB N) (lenB N) (dgi N)∧Below w.heap.size w w':=by
 have hC:=cut_any s a K c o w h.own.rd h.dig (by have:=h.le;omega) h.own.le h.nil
 have hs:(sumB o K).toNat=N:=by rw[h.sum];omega
 rw[hs,hB] at hC;refine hC.mono ?_;rintro e w' ⟨rfl,hb⟩;refine⟨rfl,(h.own.below hb).cut ?_ ?_,hb⟩
 ·rw[← hs];exact lenB_le_of h.dig
 ·intro i hi;have:=dg_sumB h.dig i (by have:=lenB_le_of h.dig;rw[hs] at this;omega);rw[hs] at this;exact this.symm
theorem short_of {g n b:Nat} {A R:Int} {w:World} (h:∃ x:Nat,Value.tuple #[.slice (some ⟨g,0,none⟩) n n,.int .u32 R]=.tuple #[.slice (some ⟨x,0,none⟩) n n,.int .u32 R]∧∃ p,Dig p n∧sumB p n=A∧Own 44 w b (some ⟨x,0,none⟩) n n p) :
  ∃ p,Dig p n∧sumB p n=A∧Own 44 w b (some ⟨g,0,none⟩) n n p:=by
 obtain⟨x,e,h⟩:=h;simp only[Value.tuple.injEq,Array.mk.injEq,List.cons.injEq,Value.slice.injEq,Option.some.injEq,Addr.mk.injEq,and_true] at e;rw[e];exact h
open Classical in
theorem div_ok (z1 z2:Int) (a1 a2:Option Addr) (c1 c2:Nat) (w:World) (h1:Rd w a1 (lenB z1.natAbs) (dgi z1.natAbs)) (hn1:lenB z1.natAbs≤10000000) (hc1:lenB z1.natAbs≤c1) (h2:Rd w a2 (lenB z2.natAbs) (dgi z2.natAbs)) (hn2:lenB z2.natAbs≤10000000) (hc2:lenB z2.natAbs≤c2) (hz:z2≠0) :
  Calls Tryz.prog 97 #[numV (decide (z1<0)) a1 (lenB z1.natAbs) c1,numV (decide (z2<0)) a2 (lenB z2.natAbs) c2] w (DivR w z1 z2):=by
 obtain⟨N1,hN1⟩:∃ N1,N1=lenB z1.natAbs:=⟨_,rfl⟩;obtain⟨N2,hN2⟩:∃ N2,N2=lenB z2.natAbs:=⟨_,rfl⟩;obtain⟨s1,hs1⟩:∃ s1,s1=decide (z1<0):=⟨_,rfl⟩;obtain⟨s2,hs2⟩:∃ s2,s2=decide (z2<0):=⟨_,rfl⟩
 have hpos:0<N2:=by rw[hN2];exact pos_of_len.2 (by omega)
 have ok1:=canon_ok z1;have ok2:=canon_ok z2;have HZ:=qh hz;rw[← hN1,← hs1] at ok1;rw[← hN2,← hs2] at ok2;rw[← hN1] at h1 hn1 hc1 ⊢;rw[← hN2] at h2 hn2 hc2 ⊢;rw[← hs1,← hs2];have CK1:=qh (fun (w':World) (hb:Below w.heap.size w w')=>check_any s1 a1 N1 c1 (dgi z1.natAbs) w' (h1.below hb) (by omega));have CK2:=qh (fun (w':World) (hb:Below w.heap.size w w')=>check_any s2 a2 N2 c2 (dgi z2.natAbs) w' (h2.below hb) (by omega));rw[decide_eq_true ok1] at CK1;rw[decide_eq_true ok2] at CK2;have HR:=qh (And.intro h1 h2);have HE:=qh (And.intro (And.intro hN1 hN2) (And.intro hs1 hs2));have B1:=((((Bx.new w 26 (.bool s1) (.slice a1 N1 c1)).alloc (.cells #[.bool s2,.slice a2 N2 c2] 26)).alloc (.cells #[.bool false,.slice none 0 0] 26)).alloc (.cells #[.bool false,.slice none 0 0] 26));have B2:=(((Bx.new2 w (.cells #[.bool s1,.slice a1 N1 c1] 26) 26 (.bool s2) (.slice a2 N2 c2)).alloc (.cells #[.bool false,.slice none 0 0] 26)).alloc (.cells #[.bool false,.slice none 0 0] 26));have B3:=((Bx.new3 w (.cells #[.bool s1,.slice a1 N1 c1] 26) (.cells #[.bool s2,.slice a2 N2 c2] 26) 26 (.bool false) (.slice none 0 0)).alloc (.cells #[.bool false,.slice none 0 0] 26));have B4:=(Bx.new4 w (.cells #[.bool s1,.slice a1 N1 c1] 26) (.cells #[.bool s2,.slice a2 N2 c2] 26) (.cells #[.bool false,.slice none 0 0] 26) 26 (.bool false) (.slice none 0 0));clear ok1 ok2 h1 h2 hN1 hN2 hs1 hs2 hz;go_enter Tryz.func97,Tryz.ntmps97
 go_upto_region 1 with (fail)
 obtain⟨W,hW⟩:∃ W,W=((((w.alloc (.cells #[.bool s1,.slice a1 N1 c1] 26)).alloc (.cells #[.bool s2,.slice a2 N2 c2] 26)).alloc (.cells #[.bool false,.slice none 0 0] 26)).alloc (.cells #[.bool false,.slice none 0 0] 26)):=⟨_,rfl⟩;have G1:=qh (((Below.refl _ _).alloc (by go_size) _ |>.alloc (by go_size) _ |>.alloc (by go_size) _ |>.alloc (by go_size) _):Below w.heap.size w ((((w.alloc (.cells #[.bool s1,.slice a1 N1 c1] 26)).alloc (.cells #[.bool s2,.slice a2 N2 c2] 26)).alloc (.cells #[.bool false,.slice none 0 0] 26)).alloc (.cells #[.bool false,.slice none 0 0] 26)))
 have hWs:w.heap.size+1+1+1+1=W.heap.size:=by rw[hW];simp
 rw[← hW] at B1 B2 B3 B4 G1;rw[show((((w.alloc (.cells #[.bool s1,.slice a1 N1 c1] 26)).alloc (.cells #[.bool s2,.slice a2 N2 c2] 26)).alloc (.cells #[.bool false,.slice none 0 0] 26)).alloc (.cells #[.bool false,.slice none 0 0] 26))=W from hW.symm];clear hW;have HB1:=qh B1;have HB2:=qh B2;have HB3:=qh B3;have HB4:=qh B4;have HWS:=qh hWs;clear B1 B2 B3 B4 hWs
 have fb:=fun (w':World) (hb:Below W.heap.size W w')=>And.intro (HB1.out.below hb HB1.out.lt) (And.intro (HB2.out.below hb HB2.out.lt) (And.intro (HB3.out.below hb HB3.out.lt) (HB4.out.below hb HB4.out.lt)))
 have FB:=qh fb;clear fb;obtain⟨b10,b11,b12,b13⟩:=HB1.out.all;obtain⟨b20,b21,b22,b23⟩:=HB2.out.all;go_wp2_with fail
 refine(CK1.out _ G1.out).mono ?_;rintro e w1 ⟨rfl,hb1⟩;have K:=FB.out _ hb1;have GB:=qh hb1;clear b10 b11 b12 b13 b20 b21 b22 b23 hb1;obtain⟨b20,b21,b22,b23⟩:=K.2.1.all;clear K;go_wp2_with fail
 refine(CK2.out _ (G1.out.trans (GB.out.mono G1.out.size))).mono ?_;rintro e w2 ⟨rfl,hb2⟩;have GB:=qk GB hb2;have K:=FB.out _ GB.out;clear b20 b21 b22 b23 hb2 CK1 CK2;obtain⟨b10,b11,b12,b13⟩:=K.1.all;obtain⟨b20,b21,b22,b23⟩:=K.2.1.all;clear K;have hne0:decide ((N2:Int)=0)=false:=decide_eq_false (by omega)
 have hne1:((N2:Int)==0)=false:=by simp;omega
 have AM:=qh (amounts_any z1.natAbs z2.natAbs a1 a2 c1 c2 w2 (by rw[← HE.out.1.1];exact HR.out.1.below (G1.out.trans (GB.out.mono G1.out.size))) (by rw[← HE.out.1.2];exact HR.out.2.below (G1.out.trans (GB.out.mono G1.out.size))) (by have:=HE.out.1.1;omega) (by have:=HE.out.1.2;omega));rw[← HE.out.1.1,← HE.out.1.2] at AM;obtain⟨cz,hcz⟩:∃ cz,cz=cmpZ (z1.natAbs:Int) (z2.natAbs:Int):=⟨_,rfl⟩;rw[← hcz] at AM;have HCZ:=qh hcz;clear hcz
 go_upto_block 1 with (fail)
 go_cut [7,8] (fun v7 v8 wx=>∃ o1 K1 d1 p1 o2 K2 d2 p2,v7=.slice o1 K1 d1∧v8=.slice o2 K2 d2∧AmtO wx W.heap.size o1 K1 d1 (z1.natAbs/z2.natAbs) p1∧AmtO wx W.heap.size o2 K2 d2 (z1.natAbs%z2.natAbs) p2∧Apart2 o1 o2∧Below W.heap.size W wx)
 case first =>
  go_wp2_with fail
  refine AM.out.mono ?_;rintro e w3 ⟨rfl,m,rfl⟩;obtain⟨w3,hw3⟩:∃ w3,w3=w2.drewN m:=⟨_,rfl⟩;rw[← hw3];have GB:=qh (show Below W.heap.size W w3 by rw[hw3];exact bdrewN GB.out m);clear hw3 AM b10 b11 b12 b13 b20 b21 b22 b23;have K:=FB.out _ GB.out;obtain⟨b10,b11,b12,b13⟩:=K.1.all;obtain⟨b20,b21,b22,b23⟩:=K.2.1.all;clear K;have HRR:=qh (And.intro (HR.out.1.below (G1.out.trans (GB.out.mono G1.out.size))) (HR.out.2.below (G1.out.trans (GB.out.mono G1.out.size))))
  by_cases hlt:cz<0
  ·have CL:=qh (clone_any a1 N1 c1 (dgi z1.natAbs) w3 HRR.out.1 (by omega));go_wp2_with fail
   refine CL.out.mono ?_;rintro e w4 ⟨x,d,rfl,hO,hn,hb⟩;have HO:=qh (And.intro (hO.mono GB.out.size) hn);have GB:=qk GB hb;clear hO hn hb CL b10 b11 b12 b13 b20 b21 b22 b23;go_wp2_with fail
   go_meet
   case rel =>
    have hAB:z1.natAbs<z2.natAbs:=by
     have h:=HCZ.out
     rcases Nat.lt_or_ge z1.natAbs z2.natAbs with h1 | h1
     ·exact h1
     ·exfalso
      rcases Nat.lt_or_ge z2.natAbs z1.natAbs with h2 | h2
      ·rw[cmpZ_gt (by omega)] at h;omega
      ·rw[cmpZ_eq (by omega)] at h;omega
    refine⟨none,0,0,fun _=>0,x,N1,d,dgi z1.natAbs,rfl,rfl,⟨⟨Nat.le_refl _,Or.inl ⟨rfl,rfl,rfl⟩,fun i hi=>by omega⟩,fun i hi=>by omega,by rw[Nat.div_eq_of_lt hAB];rfl,by omega,fun _=>rfl⟩,
     ⟨HO.out.1,dgi_Dig _ _,by rw[Nat.mod_eq_of_lt hAB,HE.out.1.1];exact sumB_dgi _,by omega,HO.out.2⟩,(fun p q h=>by cases h),GB.out⟩
  ·have hdl:decide (cz<0)=false:=decide_eq_false hlt
   have hBA:z2.natAbs≤z1.natAbs:=by
    have h:=HCZ.out
    rcases Nat.lt_or_ge z1.natAbs z2.natAbs with h1 | h1
    ·rw[cmpZ_lt (by omega)] at h;omega
    ·exact h1
   have HBA:=qh hBA;clear hBA
   by_cases hone:N2=1
   ·subst hone;obtain⟨bb,bo,rfl,hcell⟩:=HRR.out.2.cells (by omega)
    have e0:z2.natAbs<1000000000:=by have:=lt_pw_lenB z2.natAbs;rw[← HE.out.1.2] at this;exact this
    have e1:dgi z2.natAbs 0=(z2.natAbs:Int):=by show((dg z2.natAbs 0:Nat):Int)=_;rw[dg_zero];omega
    have cc:w3.cell? ⟨bb,bo,none⟩=some (.int .u32 (z2.natAbs:Int)):=by have:=hcell 0 (by omega);rw[Nat.add_zero] at this;rw[this];show some (Value.int .u32 (dgi z2.natAbs 0))=_;rw[e1]
    have SHT:=qh (fun (w':World) (hb:Below w3.heap.size w3 w')=>short_any a1 N1 c1 (dgi z1.natAbs) (z2.natAbs:Int) w' (HRR.out.1.below hb) (dgi_Dig _ _) (by omega) (by have:=HZ.out;omega) (by omega));have HQ:=qh (show sumB (dgi z1.natAbs) N1=(z1.natAbs:Int) by rw[HE.out.1.1];exact sumB_dgi _);rw[HQ.out] at SHT;clear hcell e1;have hbb:bb<w3.heap.size:=block_lt_of_cell cc;have HN:=qh e0;clear e0;go_wp2_with fail
    have GB3:=GB
    refine wp_region_fresh 11 (spOf [(6,Sp.made (fun g:Nat=>.tuple #[.slice (some ⟨g,0,none⟩) N1 N1,.int .u32 ((z1.natAbs:Int)%(z2.natAbs:Int))]) (fun g w'=>∃ p,Dig p N1∧sumB p N1=(z1.natAbs:Int)/(z2.natAbs:Int)∧Own 44 w' w3.heap.size (some ⟨g,0,none⟩) N1 N1 p))]) (fun w'=>Below w3.heap.size w3 w') (by kernel_rfl) (by kernel_rfl)
     (spOf_cons (Sp.made_keeps fun x w w' h hb=>by obtain⟨p,d1,d2,d3⟩:=h;exact⟨p,d1,d2,d3.below hb⟩) spOf_nil) (fun _ _ h hb=>h.trans (hb.mono h.size)) ((Below.refl _ _).drew) ?_
    simp only[List.take_succ_cons,List.take_zero,List.drop_succ_cons,List.drop_zero]
    iterate 6
     (refine wpF_reads rfl rfl ?_ (fun w' hw'=>?_) ?_;rotate_left;· (have hb':=Has.world hw';(have hs:=(bcell hb').1 w.heap.size 1 (by omega);have hs:=(bcell hb').1 (w.heap.size+1) 1 (by omega);have hs:=(bcell hb').1 bb bo (by omega));clear hw';go_simp;try rfl))
     conv=>arg 9;simp only[Act.put,zq0,zq1,zq2]
    (refine wpF_spec rfl rfl (fun w' hw'=>?_) ?_;· (have hb':=Has.world hw';go_simp;((refine(SHT.out w' hb').mono ?_;rintro e w'' ⟨p,rfl,d1,d2,d3,hb⟩;exact⟨_,rfl,⟨⟨_,rfl⟩,⟨_,rfl,p,d1,d2,d3.mono hb'.size⟩⟩,hb⟩))))
    rintro _ ⟨g,rfl⟩
    conv=>arg 9;simp only[Act.put,zq0,zq1,zq2]
    iterate 4
     (refine wpF_reads rfl rfl ?_ (fun w' hw'=>?_) ?_;rotate_left;· (have hb':=Has.world hw';(skip);clear hw';go_simp;try rfl))
     conv=>arg 9;simp only[Act.put,zq0,zq1,zq2]
    refine wpF_nil (fun w4 hb4 hF=>?_);obtain⟨p,d1,d2,d3⟩:=short_of (hF 6);have HO:=qh (And.intro d1 (And.intro d2 d3));have hg4:=(d3.blk rfl).2.2;have HGL:=qh (show g<w4.heap.size from hg4);have GB:=qk GB hb4;have HS3:=qh hb4.size;clear hF d1 d2 d3 hb4 hg4 SHT b10 b11 b12 b13 b20 b21 b22 b23 cc;go_wp2_with fail
    go_meet
    case rel =>
     have hgl:=HGL.out;have hgs:=GB.out.size;have hr0:0≤(z1.natAbs:Int)%(z2.natAbs:Int)∧(z1.natAbs:Int)%(z2.natAbs:Int)<1000000000:=⟨Int.emod_nonneg _ (by have:=HZ.out;omega),by have:=Int.emod_lt_of_pos (z1.natAbs:Int) (b:=(z2.natAbs:Int)) (by have:=HZ.out;omega);have:=HN.out;omega⟩
     refine⟨some ⟨g,0,none⟩,N1,N1,p,some ⟨w4.heap.size,0,none⟩,1,1,fun _=>(z1.natAbs:Int)%(z2.natAbs:Int),rfl,rfl,⟨(HO.out.2.2.mono GB3.out.size).allocd _,HO.out.1,by rw[HO.out.2.1];exact(Int.natCast_ediv _ _).symm,by omega,fun h=>by cases h⟩,
      ⟨Own.of_rowIs (row_one w4 _ _) hgs (fun i hi=>by omega),fun i hi=>hr0,?_,by omega,fun h=>by cases h⟩,(fun p q hp hq=>by cases hp;cases hq;dsimp only;omega),GB.out.alloc hgs _⟩
     show 0+(z1.natAbs:Int)%(z2.natAbs:Int)*((pw 0:Nat):Int)=_;rw[pw_zero,Int.natCast_emod];omega
   ·obtain⟨n,hn⟩:∃ n,N2=n+1:=⟨N2-1,by omega⟩;obtain⟨m,hm⟩:∃ m,n=m+1:=⟨n-1,by omega⟩;obtain⟨M,hM⟩:∃ M,M+N2=N1+1:=⟨N1+1-N2,by have:=lenB_mono HBA.out;rw[← HE.out.1.1,← HE.out.1.2] at this;omega⟩
    have DV:=qh (divide_any a1 a2 N1 c1 N2 n m c2 (N1+1) M (dgi z1.natAbs) (dgi z2.natAbs) w3 HRR.out.1 HRR.out.2 (dgi_Dig _ _) (dgi_Dig _ _) (by omega) hn hm rfl hM (by have:=lenB_mono HBA.out;rw[← HE.out.1.1,← HE.out.1.2] at this;exact this)
     (by have h:=dg_last (m:=z2.natAbs) (by have:=HZ.out;omega);rw[← HE.out.1.2,hn,Nat.add_sub_cancel] at h;show((dg z2.natAbs n:Nat):Int)≠0;omega))
    have hone1:((N2:Int)==1)=false:=by simp;omega
    have HM:=qh hM;have HNN:=qh hn;clear hn hm hM;go_wp2_with fail
    refine DV.out.mono ?_;rintro e w4 ⟨gq,gr,qp,rp,rfl,hne,d1,d2,d3,d4,d5,d6,hb⟩;have HO:=qh (And.intro (And.intro d1 (And.intro d2 d5)) (And.intro d3 (And.intro d4 d6)));have HNE:=qh hne;have hgs:=GB.out.size;have GB4:=qh (GB.out.trans (hb.mono GB.out.size));clear hne d1 d2 d3 d4 d5 d6 hb DV hgs b10 b11 b12 b13 b20 b21 b22 b23;go_wp2_with fail
    go_meet
    case rel =>
     have e1:sumB (dgi z1.natAbs) N1=(z1.natAbs:Int):=by rw[HE.out.1.1];exact sumB_dgi _
     have e2:sumB (dgi z2.natAbs) N2=(z2.natAbs:Int):=by rw[HE.out.1.2];exact sumB_dgi _
     exact⟨some ⟨gq,0,none⟩,M,M,qp,some ⟨gr,0,none⟩,N2,N2,rp,rfl,rfl,⟨HO.out.1.2.2.mono GB.out.size,HO.out.1.1,by rw[HO.out.1.2.1,e1,e2];exact(Int.natCast_ediv _ _).symm,by have:=HM.out;omega,fun h=>by cases h⟩,
      ⟨HO.out.2.2.2.mono GB.out.size,HO.out.2.1,by rw[HO.out.2.2.1,e1,e2];exact(Int.natCast_emod _ _).symm,by omega,fun h=>by cases h⟩,(fun p q hp hq=>by cases hp;cases hq;exact HNE.out),GB4.out⟩
 case rest =>
  obtain⟨o1,K1,d1,p1,o2,K2,d2,p2,rfl,rfl,A1,A2,hap,hb⟩:=hcut;obtain⟨w4,rfl⟩:∃ w4,w4=wc:=⟨_,rfl⟩;have GB:=qh hb;have HA1:=qh A1;have HA2:=qh A2;have HAP:=qh hap;clear A1 A2 hap hb AM HCZ;obtain⟨sq,hsq⟩:∃ sq,sq=decide (q0 z1 z2<0):=⟨_,rfl⟩;obtain⟨sr,hsr⟩:∃ sr,sr=decide (r0 z1 z2<0):=⟨_,rfl⟩;obtain⟨Lq,hLq⟩:∃ Lq,Lq=lenB (z1.natAbs/z2.natAbs):=⟨_,rfl⟩;obtain⟨Lr,hLr⟩:∃ Lr,Lr=lenB (z1.natAbs%z2.natAbs):=⟨_,rfl⟩;have CQ:=qh (fun (w':World) (hb:Below w4.heap.size w4 w')=>cut_amt (!(s1==s2)) sq o1 K1 d1 _ W.heap.size p1 w' (HA1.out.below hb) (by rw[HE.out.2.1,HE.out.2.2,hsq];exact q0_sign z1 z2));have CR:=qh (fun (w':World) (hb:Below w4.heap.size w4 w')=>cut_amt s1 sr o2 K2 d2 _ W.heap.size p2 w' (HA2.out.below hb) (by rw[HE.out.2.1,hsr];exact r0_sign z1 z2));rw[← hLq] at CQ;rw[← hLr] at CR;have HSQ:=qh (And.intro (And.intro hsq hsr) (And.intro hLq hLr));clear hsq hsr hLq hLr;have HS:=qh (fun (w':World) (hb:Below w4.heap.size w4 w')=>And.intro (FB.out w' (GB.out.trans (hb.mono GB.out.size))).1.all.1 (FB.out w' (GB.out.trans (hb.mono GB.out.size))).2.1.all.1)
  go_upto_region 12 with (fail)
  refine wp_region_fresh 10 (spOf [(6,Sp.know (numV sq o1 Lq Lq))]) (fun w'=>Below w4.heap.size w4 w') (by kernel_rfl) (by kernel_rfl)
   (spOf_cons (Sp.know_keeps _) spOf_nil) (fun _ _ h hb=>h.trans (hb.mono h.size)) ((Below.refl _ _).drew) ?_
  simp only[List.take_succ_cons,List.take_zero,List.drop_succ_cons,List.drop_zero]
  iterate 6
   (refine wpF_reads rfl rfl ?_ (fun w' hw'=>?_) ?_;rotate_left;· (have hb':=Has.world hw';(have hs:=(HS.out _ hb').1;have hs:=(HS.out _ hb').2);clear hw';go_simp;try rfl))
   conv=>arg 9;simp only[Act.put,zq0,zq1,zq2]
  (refine wpF_spec rfl rfl (fun w' hw'=>?_) ?_;· (have hb':=Has.world hw';go_simp;((refine(CQ.out w' hb').mono ?_;rintro e w'' ⟨rfl,ho,hb⟩;exact⟨_,rfl,rfl,hb⟩))))
  rintro _ rfl
  conv=>arg 9;simp only[Act.put,zq0,zq1,zq2]
  iterate 3
   (refine wpF_reads rfl rfl ?_ (fun w' hw'=>?_) ?_;rotate_left;· (have hb':=Has.world hw';(have hs:=(HS.out _ hb').1);clear hw';go_simp;try rfl))
   conv=>arg 9;simp only[Act.put,zq0,zq1,zq2]
  refine wpF_nil (fun w5 hb5 hF=>?_);have hG5:=GB.out.trans (hb5.mono GB.out.size);have CR5:=qh (CR.out w5 hb5);have HB5:=qh hb5;clear hF hb5 CR CQ HS;go_wp2_with fail
  refine CR5.out.mono ?_;rintro e w6 ⟨rfl,-,hb6⟩;have GB:=qh (hG5.trans (hb6.mono hG5.size));have HX:=qh (HB5.out.trans (hb6.mono HB5.out.size));have HA1:=qh (HA1.out.below HX.out);have HA2:=qh (HA2.out.below HX.out);clear HB5 HX hb6 hG5 CR5;have K:=FB.out _ GB.out;obtain⟨b10,b11,b12,b13⟩:=K.1.all;obtain⟨b20,b21,b22,b23⟩:=K.2.1.all;obtain⟨b30,b31,b32,b33⟩:=K.2.2.1.all;obtain⟨b40,b41,b42,b43⟩:=K.2.2.2.all;have HK:=qh K;clear K
  go_upto_if 79 with (fail)
  obtain⟨V,hV⟩:∃ V,V=((((w6.setCell ⟨w.heap.size+1+1,0,none⟩ (.bool sq)).setCell ⟨w.heap.size+1+1,1,none⟩ (.slice o1 Lq Lq)).setCell ⟨w.heap.size+1+1+1,0,none⟩ (.bool sr)).setCell ⟨w.heap.size+1+1+1,1,none⟩ (.slice o2 Lr Lr)):=⟨_,rfl⟩;rw[← hV];have hws:=HWS.out;have HV1:=qh (show Bx V w.heap.size 26 (.bool s1) (.slice a1 N1 c1) by rw[hV];exact(((HK.out.1.other (by dsimp only;omega) _).other (by dsimp only;omega) _).other (by dsimp only;omega) _).other (by dsimp only;omega) _);have HV2:=qh (show Bx V (w.heap.size+1) 26 (.bool s2) (.slice a2 N2 c2) by rw[hV];exact(((HK.out.2.1.other (by dsimp only;omega) _).other (by dsimp only;omega) _).other (by dsimp only;omega) _).other (by dsimp only;omega) _);have HV3:=qh (show Bx V (w.heap.size+1+1) 26 (.bool sq) (.slice o1 Lq Lq) by rw[hV];exact((HK.out.2.2.1.set _ _).other (by dsimp only;omega) _).other (by dsimp only;omega) _);have HV4:=qh (show Bx V (w.heap.size+1+1+1) 26 (.bool sr) (.slice o2 Lr Lr) by rw[hV];exact((HK.out.2.2.2.other (by dsimp only;omega) _).other (by dsimp only;omega) _).set _ _);have HQ:=qh (show AmtO V W.heap.size o1 K1 d1 (z1.natAbs/z2.natAbs) p1 by rw[hV];exact(((HA1.out.other (by dsimp only;omega) _).other (by dsimp only;omega) _).other (by dsimp only;omega) _).other (by dsimp only;omega) _);have HRM:=qh (show AmtO V W.heap.size o2 K2 d2 (z1.natAbs%z2.natAbs) p2 by rw[hV];exact(((HA2.out.other (by dsimp only;omega) _).other (by dsimp only;omega) _).other (by dsimp only;omega) _).other (by dsimp only;omega) _)
  have HGV:=qh (show Below w.heap.size w V by
   rw[hV];have h:=G1.out.trans (GB.out.mono G1.out.size)
   exact(((h.setCell (by dsimp only;omega) _).setCell (by dsimp only;omega) _).setCell (by dsimp only;omega) _).setCell (by dsimp only;omega) _)
  have HSV:=qh (show W.heap.size≤V.heap.size by rw[hV];simp only[World.size_setCell];exact GB.out.size);clear hV HA1 HA2 HK GB FB b10 b11 b12 b13 b20 b21 b22 b23 b30 b31 b32 b33 b40 b41 b42 b43 HB1 HB2 HB3 HB4 G1 hws;obtain⟨b10,b11,b12,b13⟩:=HV1.out.all;obtain⟨b20,b21,b22,b23⟩:=HV2.out.all;obtain⟨b30,b31,b32,b33⟩:=HV3.out.all;obtain⟨b40,b41,b42,b43⟩:=HV4.out.all
  go_cut [] (fun wx=>∃ aq ar,Bx wx (w.heap.size+1+1) 26 (.bool (decide (z1/z2<0))) (.slice aq (lenB (z1/z2).natAbs) (lenB (z1/z2).natAbs))∧Bx wx (w.heap.size+1+1+1) 26 (.bool (decide (z1%z2<0))) (.slice ar (lenB (z1%z2).natAbs) (lenB (z1%z2).natAbs)) ∧
   Own 44 wx W.heap.size aq (lenB (z1/z2).natAbs) (lenB (z1/z2).natAbs) (dgi (z1/z2).natAbs)∧Own 44 wx W.heap.size ar (lenB (z1%z2).natAbs) (lenB (z1%z2).natAbs) (dgi (z1%z2).natAbs)∧Apart2 aq ar∧(aq=none→lenB (z1/z2).natAbs=0)∧(ar=none→lenB (z1%z2).natAbs=0)∧Below w.heap.size w wx)
  case first =>
   by_cases hng:r0 z1 z2<0
   ·have esr:sr=true:=HSQ.out.1.2.trans (decide_eq_true hng);have HNG:=qh hng
    obtain⟨y,hy⟩:∃ y:Int,y=if z2<0 then 1 else -1:=⟨_,rfl⟩
    have hy1:y.natAbs=1:=by rw[hy];split <;> rfl
    have hy2:(!s2)=decide (y<0):=by
     rw[HE.out.2.2,hy]
     by_cases h:z2<0
     ·rw[if_pos h,decide_eq_true h];rfl
     ·rw[if_neg h,decide_eq_false h];rfl
    have HY:=qh (And.intro hy (And.intro hy1 hy2));have OF:=qh (of64_any 1 V (by omega) (by omega));clear hng hy hy1 hy2;subst esr;go_wp2_with fail
    refine OF.out.mono ?_;rintro e w7 ⟨ay,rfl,hoy,-,hb7⟩;rw[show(1:Int).natAbs=1 from rfl] at hoy;have HOY:=qh hoy;have HB7:=qh hb7;have M1:=HV1.out.below hb7 HV1.out.lt;have M2:=HV2.out.below hb7 HV2.out.lt;have M3:=HV3.out.below hb7 HV3.out.lt;have M4:=HV4.out.below hb7 HV4.out.lt;have HM2:=qh M2;have HM3:=qh M3;have HM4:=qh M4;clear hoy hb7 OF b10 b11 b12 b13 b20 b21 b22 b23 b30 b31 b32 b33 b40 b41 b42 b43;obtain⟨b20,b21,b22,b23⟩:=M2.all;obtain⟨b30,b31,b32,b33⟩:=M3.all;obtain⟨b40,b41,b42,b43⟩:=M4.all;clear M1 M2 M3 M4
    go_upto_region 18 with (fail)
    obtain⟨U,hU⟩:∃ U,U=(w7.alloc (.cells #[.bool (!s2),.slice ay (lenB 1) (lenB 1)] 26)).alloc (.cells #[.bool false,.slice a2 N2 c2] 26):=⟨_,rfl⟩
    have hbU:Below V.heap.size V U:=by rw[hU];exact(HB7.out.alloc HB7.out.size _).alloc (by simp;have:=HB7.out.size;omega) _
    have hx1:Bx U w7.heap.size 26 (.bool (!s2)) (.slice ay (lenB 1) (lenB 1)):=by rw[hU];exact(Bx.new w7 _ _ _).alloc _
    have hx2:Bx U (w7.heap.size+1) 26 (.bool false) (.slice a2 N2 c2):=by rw[hU];exact Bx.new2 w7 _ _ _ _
    have hoU:Own 44 U V.heap.size ay (lenB 1) (lenB 1) (dgi 1):=by rw[hU];exact(HOY.out.allocd _).allocd _
    rw[show(w7.alloc (.cells #[.bool (!s2),.slice ay (lenB 1) (lenB 1)] 26)).alloc (.cells #[.bool false,.slice a2 N2 c2] 26)=U from hU.symm];have HBU:=qh hbU;have HX1:=qh hx1;have HX2:=qh hx2;have HOU:=qh hoU;have HU3:=qh (HV3.out.below hbU HV3.out.lt);have HU4:=qh (HV4.out.below hbU HV4.out.lt);clear hU hbU hx1 hx2 hoU HOY HB7 HM2 HM3 HM4 b20 b21 b22 b23 b30 b31 b32 b33 b40 b41 b42 b43;have DS:=qh (div_down HZ.out HNG.out);obtain⟨Q,hQ⟩:∃ Q,Q=z1/z2:=⟨_,rfl⟩;obtain⟨R,hR⟩:∃ R,R=z1%z2:=⟨_,rfl⟩
    have e1:valN sq Lq (dgi (z1.natAbs/z2.natAbs))+valN (!s2) (lenB 1) (dgi 1)=Q:=by
     rw[hQ,DS.out.1,HSQ.out.1.1,HSQ.out.2.1,← q0_abs,canon_val,HY.out.2.2,← HY.out.2.1,canon_val,HY.out.1]
    have e2:valN true Lr (dgi (z1.natAbs%z2.natAbs))+valN false N2 (dgi z2.natAbs)=R:=by
     have h:=canon_val ((z2.natAbs:Nat):Int);rw[show decide (((z2.natAbs:Nat):Int)<0)=false from decide_eq_false (by omega),Int.natAbs_natCast] at h;rw[hR,DS.out.2,HSQ.out.1.2,HSQ.out.2.2,← r0_abs,canon_val,HE.out.1.2,h]
    have hl1:Lq≤10000000:=by have:=lenB_mono (Nat.div_le_self z1.natAbs z2.natAbs);rw[← HSQ.out.2.1,← HE.out.1.1] at this;omega
    have hl2:Lr≤10000000:=by have:=lenB_mono (Nat.le_of_lt (Nat.mod_lt z1.natAbs (show 0<z2.natAbs by have:=HZ.out;omega)));rw[← HSQ.out.2.2,← HE.out.1.2] at this;omega
    have hl3:lenB 1≤1:=lenB_le (by decide)
    have ho1:Rd V o1 Lq (dgi (z1.natAbs/z2.natAbs)):=by rw[HSQ.out.2.1];exact HQ.out.num.rd
    have ho2:Rd V o2 Lr (dgi (z1.natAbs%z2.natAbs)):=by rw[HSQ.out.2.2];exact HRM.out.num.rd
    have AD1:=qh (fun (w':World) (hb:Below U.heap.size U w')=>add_res sq o1 Lq Lq (dgi (z1.natAbs/z2.natAbs)) (!s2) ay (lenB 1) (lenB 1) (dgi 1) w' ((ho1.below HBU.out).below hb) (by omega) (Nat.le_refl _) (HOU.out.rd.below hb) (by omega) (Nat.le_refl _));have AD2:=qh (fun (w':World) (hb:Below U.heap.size U w')=>add_res true o2 Lr Lr (dgi (z1.natAbs%z2.natAbs)) false a2 N2 c2 (dgi z2.natAbs) w' ((ho2.below HBU.out).below hb) (by omega) (Nat.le_refl _) (HR.out.2.below ((HGV.out.trans (HBU.out.mono HGV.out.size)).trans (hb.mono (Nat.le_trans HGV.out.size HBU.out.size)))) (by omega) hc2);rw[e1] at AD1;rw[e2] at AD2;have HQR:=qh (And.intro hQ hR);clear hQ hR e1 e2 hl1 hl2 hl3 ho1 ho2;have HS:=qh (fun (w':World) (hb:Below U.heap.size U w')=>And.intro (And.intro (HU3.out.below hb HU3.out.lt) (HU4.out.below hb HU4.out.lt)) (And.intro (HX1.out.below hb HX1.out.lt) (HX2.out.below hb HX2.out.lt)))
    refine wp_region_fresh 5 (spOf [(2,Sp.made (fun x:Option Addr=>numV (decide (Q<0)) x (lenB Q.natAbs) (lenB Q.natAbs)) (fun x w'=>Own 44 w' U.heap.size x (lenB Q.natAbs) (lenB Q.natAbs) (dgi Q.natAbs)∧(x=none→lenB Q.natAbs=0)))]) (fun w'=>Below U.heap.size U w') (by kernel_rfl) (by kernel_rfl)
     (spOf_cons (Sp.made_keeps fun x w w' h hb=>⟨h.1.below hb,h.2⟩) spOf_nil) (fun _ _ h hb=>h.trans (hb.mono h.size)) ((Below.refl _ _).drew) ?_
    simp only[List.take_succ_cons,List.take_zero,List.drop_succ_cons,List.drop_zero]
    iterate 2
     (refine wpF_reads rfl rfl ?_ (fun w' hw'=>?_) ?_;rotate_left;· (have hb':=Has.world hw';(obtain⟨x0,x1,x2,x3⟩:=(HS.out _ hb').1.1.all;obtain⟨x0,x1,x2,x3⟩:=(HS.out _ hb').2.1.all);clear hw';go_simp;try rfl))
     conv=>arg 9;simp only[Act.put,zq0,zq1,zq2]
    (refine wpF_spec rfl rfl (fun w' hw'=>?_) ?_;· (have hb':=Has.world hw';go_simp;((refine(AD1.out w' hb').mono ?_;rintro e w'' ⟨a,rfl,ho,hn,hb⟩;exact⟨_,rfl,⟨⟨a,rfl⟩,⟨a,rfl,ho.mono hb'.size,hn⟩⟩,hb⟩))))
    rintro _ ⟨x,rfl⟩
    conv=>arg 9;simp only[Act.put,zq0,zq1,zq2]
    iterate 2
     (refine wpF_reads rfl rfl ?_ (fun w' hw'=>?_) ?_;rotate_left;· (have hb':=Has.world hw';(obtain⟨x0,x1,x2,x3⟩:=(HS.out _ hb').1.2.all;obtain⟨x0,x1,x2,x3⟩:=(HS.out _ hb').2.2.all);clear hw';go_simp;try rfl))
     conv=>arg 9;simp only[Act.put,zq0,zq1,zq2]
    refine wpF_nil (fun w8 hb8 hF=>?_);have hX:=own_num (T:=44) (b:=U.heap.size) (s:=decide (Q<0)) (L:=lenB Q.natAbs) (o:=dgi Q.natAbs) (a:=x) (p:=fun x=>x=none→lenB Q.natAbs=0) (hF 2);have HXQ:=qh hX;have A2:=qh (AD2.out w8 hb8);have HB8:=qh hb8;clear hF hX hb8 AD1 AD2;go_wp2_with fail
    refine A2.out.mono ?_;rintro e w9 ⟨y9,rfl,hoy,hny,hb9⟩;have HB9:=qh (HB8.out.trans (hb9.mono HB8.out.size));have HXQ9:=qh (HXQ.out.1.below hb9);have HLT:=qh (show ∀ p,x=some p→p.block<w8.heap.size from fun p hp=>(HXQ.out.1.blk hp).2.2);have HOY:=qh (And.intro hoy hny);have M:=HS.out _ HB9.out;have HM:=qh M;clear hoy hny hb9 A2;obtain⟨b30,b31,b32,b33⟩:=M.1.1.all;obtain⟨b40,b41,b42,b43⟩:=M.1.2.all;clear M;go_wp2_with fail
    go_meet
    case rel =>
     have s1':=HB8.out.size;have s2':=HBU.out.size;have s3':=HSV.out;have s4':=HWS.out;rw[← HQR.out.1,← HQR.out.2];refine⟨x,y9,((HM.out.1.1.set _ _).other (by dsimp only;omega) _).other (by dsimp only;omega) _,((HM.out.1.2.other (by dsimp only;omega) _).other (by dsimp only;omega) _).set _ _,?_,?_,?_,HXQ.out.2,HOY.out.2,?_⟩
     ·exact((((HXQ9.out.other (by dsimp only;omega) _).other (by dsimp only;omega) _).other (by dsimp only;omega) _).other (by dsimp only;omega) _).mono (by omega)
     ·exact((((HOY.out.1.other (by dsimp only;omega) _).other (by dsimp only;omega) _).other (by dsimp only;omega) _).other (by dsimp only;omega) _).mono (by omega)
     ·intro p q hp hq e;have h1:=HLT.out p hp;have h2:=(HOY.out.1.blk hq).2.1;omega
     ·have h:=(HGV.out.trans (HBU.out.mono HGV.out.size)).trans (HB9.out.mono (Nat.le_trans HGV.out.size HBU.out.size));exact(((h.setCell (by dsimp only;omega) _).setCell (by dsimp only;omega) _).setCell (by dsimp only;omega) _).setCell (by dsimp only;omega) _
   ·have esr:sr=false:=HSQ.out.1.2.trans (decide_eq_false hng);have DP:=qh (div_plain HZ.out hng);subst esr;clear hng;go_wp2_with fail
    go_meet
    case rel =>
     have e1:(z1/z2).natAbs=z1.natAbs/z2.natAbs:=by rw[DP.out.1,q0_abs]
     have e2:(z1%z2).natAbs=z1.natAbs%z2.natAbs:=by rw[DP.out.2,r0_abs]
     refine⟨o1,o2,?_,?_,?_,?_,HAP.out,?_,?_,HGV.out⟩
     ·rw[e1,← HSQ.out.2.1,DP.out.1,← HSQ.out.1.1];exact HV3.out
     ·rw[e2,← HSQ.out.2.2,DP.out.2,← HSQ.out.1.2];exact HV4.out
     ·rw[e1];exact HQ.out.num
     ·rw[e2];exact HRM.out.num
     ·rw[e1];exact HQ.out.none
     ·rw[e2];exact HRM.out.none
  case rest =>
   obtain⟨aq,ar,B3,B4,hoq,hor,hap,hnq,hnr,hb⟩:=hcut;obtain⟨w8,rfl⟩:∃ w8,w8=wc:=⟨_,rfl⟩;have K3:=qh B3;have K4:=qh B4;have HOQ:=qh (And.intro hoq (And.intro hor (And.intro hap (And.intro hnq (And.intro hnr hb)))));clear hoq hor hap hnq hnr hb;clear b10 b11 b12 b13 b20 b21 b22 b23 b30 b31 b32 b33 b40 b41 b42 b43;obtain⟨b30,b31,b32,b33⟩:=B3.all;obtain⟨b40,b41,b42,b43⟩:=B4.all;clear B3 B4
   go_upto_region 19 with (fail)
   go_region;go_wp2_with fail
   have hws:=HWS.out;have k3:=((K3.out.set (.bool (decide (z1/z2<0))) (.slice aq (lenB (z1/z2).natAbs) (lenB (z1/z2).natAbs))).other (a:=⟨w.heap.size+1+1+1,0,none⟩) (by dsimp only;omega) (.bool (decide (z1%z2<0)))).other (a:=⟨w.heap.size+1+1+1,1,none⟩) (by dsimp only;omega) (.slice ar (lenB (z1%z2).natAbs) (lenB (z1%z2).natAbs));have k4:=((K4.out.other (a:=⟨w.heap.size+1+1,0,none⟩) (by dsimp only;omega) (.bool (decide (z1/z2<0)))).other (a:=⟨w.heap.size+1+1,1,none⟩) (by dsimp only;omega) (.slice aq (lenB (z1/z2).natAbs) (lenB (z1/z2).natAbs))).set (.bool (decide (z1%z2<0))) (.slice ar (lenB (z1%z2).natAbs) (lenB (z1%z2).natAbs));refine bodyPost_ret (results_cct rfl _ _ _ _ _ _ _ _ _ _ _ rfl k3 rfl k4 Tryz.underlying26 rfl (by kernel_rfl) (by kernel_rfl)) rfl ⟨aq,ar,rfl,?_,?_,HOQ.out.2.2.1,HOQ.out.2.2.2.1,HOQ.out.2.2.2.2.1,?_⟩
   ·exact((((((HOQ.out.1.other (by dsimp only;omega) _).other (by dsimp only;omega) _).other (by dsimp only;omega) _).other (by dsimp only;omega) _)).below (Below.refl _ _).drew).mono (by omega)
   ·exact((((((HOQ.out.2.1.other (by dsimp only;omega) _).other (by dsimp only;omega) _).other (by dsimp only;omega) _).other (by dsimp only;omega) _)).below (Below.refl _ _).drew).mono (by omega)
   ·have h:=HOQ.out.2.2.2.2.2;exact((((h.setCell (by dsimp only;omega) _).setCell (by dsimp only;omega) _).setCell (by dsimp only;omega) _).setCell (by dsimp only;omega) _).drew
end Go.Proofs.YtjcmanikkcfnmaaGreat.Limb

