/-
  The walk of Div of the document's answer for limbs, for two numbers that may be, the second one not 0.
-/
import Derived.Test.YtgkkbkoiaccmfaaGreatDoorPzQF
set_option linter.unusedSimpArgs false
set_option linter.unusedVariables false
set_option maxHeartbeats 16000000
set_option maxRecDepth 100000
namespace Go.Proofs.YtgkkbkoiaccmfaaGreatDoor
namespace Limb
open Go.RowKit Go.Sort Go.Fresh
def cellN (w:World) (b i:Nat):Nat:=match w.cell? ⟨b,i,none⟩ with | some (.int _ g)=>g.toNat | _=>0
theorem Zy {w:World} {base g n cap i:Nat} {o:Nat->Int} (h:Own 160 w base (some ⟨g,0,none⟩) n cap o) (hi:i<n):cellN w g i=(o i).toNat:=by
 unfold cellN;rw[h.cell hi]
theorem Own.only {T:Nat} {w w':World} {g base:Nat} {a:Option Addr} {n cap:Nat} {o:Nat->Int} (h:Own T w base a n cap o) (ho:Only g w w') (hg:∀ p,a=some p->p.block≠g):Own T w' base a n cap o :=
 h.keep fun p hp=>ho.1 _ (hg p hp)
theorem Yx (g k:Nat) (a:Option Addr) (n cap:Nat) (o:Nat->Int) (w:World) (base ty:Nat) (hz:Own 160 w base (some ⟨g,0,none⟩) k k (fun _=>0)) (h:Rd w a n o) (hn:n<=100000000) (hk:k<=100000000) (h0:0<n) :
  ∃ g' cap' w',(Builtin.append_ #[24,24] ty #[.slice (some ⟨g,0,none⟩) k k,.slice a n cap]).run Tryz.prog w=.ok (.slice (some ⟨g',0,none⟩) (k+n) cap') w'/\Own 160 w' w.heap.size (some ⟨g',0,none⟩) (k+n) cap' (Qx o k)/\Below w.heap.size w w':=by
 obtain⟨i0,hi,hz0,hz1,hz2⟩:=info_parts Qt;obtain⟨b,off,rfl,hc⟩:=h.cells h0
 have hr:=run_append_grow (P:=Tryz.prog) w 24 ty 160 i0 (.int .u32 0) Tryz.underlying24 hi hz0 ⟨g,0,none⟩ k k (ucs (fun _=>0) k) (by rw[Qd,hz1];omega)
  (fun j u hj=>by
   obtain⟨hjn,rfl⟩:=XX hj;rw[Addr.add_lit,Nat.zero_add]
   exact hz.cell hjn) ⟨b,off,none⟩ n cap (ucs o n) (by rw[Qd,hz1];omega)
  (fun j u hj=>by
   obtain⟨hjn,rfl⟩:=XX hj;rw[Addr.add_lit]
   exact hc j hjn) (by omega) (by omega) (growslice_fits (by omega) (by rw[hz2];omega))
 have hge:=grownCap_ge w (k+n) k 160;refine⟨_,_,_,hr,⟨by omega,Or.inr ⟨w.heap.size,_,rfl,zj,heap_alloc_new w.drew _,?_,?_⟩,?_⟩,(Below.refl _ w).drew.alloc zj _⟩
 ·simp only[Array.size_append,List.size_toArray,size_zeroCells,Qd];show _<=k+n+(grownCap w (k+n) k 160-(k+n))*1;omega
 ·intro i hi';rw[Array.getElem?_append_left (by simp only[Array.size_append,List.size_toArray,Qd];exact hi')];show _=some (Value.int .u32 (Qx o k i));by_cases hik:i<k
  ·have e:Qx o k i=0:=by unfold Qx;rw[if_pos hik]
   rw[Array.getElem?_append_left (by simp only[List.size_toArray,Qd];exact hik),e]
   simpa using ZJ (fun _=>0) k i hik
  ·have e:Qx o k i=o (i-k):=by unfold Qx;rw[if_neg hik]
   rw[Array.getElem?_append_right (by simp only[List.size_toArray,Qd];omega),e];simp only[List.size_toArray,Qd,List.getElem?_toArray];exact ZJ o n (i-k) (by omega)
 ·intro i hi';unfold Qx;split
  ·omega
  ·exact h.rng _ (by omega)
theorem wpList_append_run {P:Program} {w:World} {ops:Array Oper} {rest:List Oper} {o:Oper} {a:Act} {Q:Exit->Act->World->Prop} (hgd:o.guard=none) (s x:Operand) (t:TypeId)
  (ho:o.op=.call { callee:=.builtin .append,args:=#[s,x],argTypes:=#[t,t] }) (v u:Value) (hs:a.eval s=v) (hx:a.eval x=u) (r:Value) (w':World)
  (hr:(Builtin.append_ #[t,t] o.type #[v,u]).run P w=.ok r w') (h:wpList P ops Q rest (a.put o.dst r) w'):wpList P ops Q (o :: rest) a w :=
 wpList_plain hgd fun K hK=>by
  unfold Oper.wp execOp;simp only[ho,resolve,invoke,builtin,Sem.run_bind,Sem.run_pure,Result.andThen_ok,List.map_toArray,List.map_cons,List.map_nil,hs,hx,hr];exact hK _ _ h
def GoesR (w:World) (A B:Nat) (e:Ending) (w':World):Prop :=
 ∃ a1 K1 c1 o1 a2 K2 c2 o2,e=.returned (.tuple #[.slice a1 K1 c1,.slice a2 K2 c2])/\XT w' w.heap.size a1 K1 c1 (A/B) o1/\XT w' w.heap.size a2 K2 c2 (A%B) o2/\Xk a1 a2/\Below w.heap.size w w'
structure jc1 (w wr:World) (gl gq la cl:Nat) (lp qp:Nat->Int):Prop where
 l:Own 160 wr w.heap.size (some ⟨gl,0,none⟩) la cl lp
 q:Own 160 wr w.heap.size (some ⟨gq,0,none⟩) (la+1) (la+1) qp
 bel:Below w.heap.size w wr
theorem jc1.below {w wr w':World} {gl gq la cl:Nat} {lp qp:Nat->Int} (h:jc1 w wr gl gq la cl lp qp) (hb:Below wr.heap.size wr w'):jc1 w w' gl gq la cl lp qp:=⟨h.l.below hb,h.q.below hb,h.bel.trans (hb.mono h.bel.size)⟩
theorem own_ofk {T j b x:Nat} {o:Nat->Int} {w:World} (h:∃ y:Nat,Value.slice (some ⟨x,0,none⟩) j j=.slice (some ⟨y,0,none⟩) j j/\Own T w b (some ⟨y,0,none⟩) j j o):Own T w b (some ⟨x,0,none⟩) j j o:=by
 obtain⟨y,e,h⟩:=h;simp only[Value.slice.injEq,Option.some.injEq,Addr.mk.injEq,and_true] at e;rw[e];exact h
theorem own_ofc {T j b:Nat} {x:Nat × Nat} {o:Nat->Int} {w:World} (h:∃ y:Nat × Nat,Value.slice (some ⟨x.1,0,none⟩) j x.2=.slice (some ⟨y.1,0,none⟩) j y.2/\Own T w b (some ⟨y.1,0,none⟩) j y.2 o):Own T w b (some ⟨x.1,0,none⟩) j x.2 o:=by
 obtain⟨y,e,h⟩:=h;simp only[Value.slice.injEq,Option.some.injEq,Addr.mk.injEq,and_true,true_and] at e;rw[e.1,e.2];exact h
theorem own_ofn {T j b:Nat} {s:Bool} {x:Nat × Nat} {o:Nat->Int} {w:World} (h:∃ y:Nat × Nat,Jy s (some ⟨x.1,0,none⟩) j x.2=Jy s (some ⟨y.1,0,none⟩) j y.2/\Own T w b (some ⟨y.1,0,none⟩) j y.2 o):Own T w b (some ⟨x.1,0,none⟩) j x.2 o:=by
 obtain⟨y,e,h⟩:=h;simp only[Jy,Value.agg.injEq,Array.mk.injEq,List.cons.injEq,Value.slice.injEq,Option.some.injEq,Addr.mk.injEq,and_true,true_and] at e;rw[e.1,e.2];exact h
theorem goes_any (A B:Nat) (a b:Option Addr) (la lb ca cb:Nat) (w:World) (ha:Rd w a la (dgi A)) (hb:Rd w b lb (dgi B)) (hla:la=Ja A) (hlb:lb=Ja B) (hna:la<=10000000) (hnb:lb<=10000000) (hB:0<B) :
  Calls Tryz.prog 225 #[.slice a la ca,.slice b lb cb] w (GoesR w A B):=by
 have hsA:Jh (dgi A) la=(A:Int):=by rw[hla];exact Jz A
 have hsB:Jh (dgi B) lb=(B:Int):=by rw[hlb];exact Jz B
 have HS:=qh (And.intro hsA hsB)
 have hlb0:0<lb:=by rw[hlb];exact Xm.2 hB
 have HR:=qh (And.intro ha hb);have HL:=qh (And.intro hla hlb);have HBP:=qh hB;clear hsA hsB ha hb hla hlb hB;by_cases hone:lb=1
 ·subst hone;obtain⟨bb,bo,rfl,hcell⟩:=HR.o.2.cells (by omega)
  have e0:B<1000000000:=by have:=JG B;rw[<- HL.o.2] at this;exact this
  have e1:dgi B 0=(B:Int):=by show((dg B 0:Nat):Int)=_;rw[ZF];omega
  have cc:w.cell? ⟨bb,bo,none⟩=some (.int .u32 (B:Int)):=by have:=hcell 0 (by omega);rw[Nat.add_zero] at this;rw[this];show some (Value.int .u32 (dgi B 0))=_;rw[e1]
  have SM:=qh (jfd a la ca (dgi A) (B:Int) w HR.o.1 (Js _ _) (by omega) (by have:=HBP.o;omega) (by omega));rw[HS.o.1] at SM;have HN:=qh e0;clear e0 e1 hcell;go_enter Tryz.func225,Tryz.ntmps225;go_wp2_with fail
  refine SM.o.mono ?_;rintro e w4 ⟨p,rfl,d1,d2,d3,hb4⟩;have HO:=qh (And.intro d1 (And.intro d2 (And.intro d3 hb4)));clear d1 d2 d3 hb4 SM;go_wp2_with fail
  go_ret2;have hgl:=(HO.o.2.2.1.blk rfl).2.2;dsimp only at hgl;have hr0:0<=(A:Int)%(B:Int)/\(A:Int)%(B:Int)<1000000000:=⟨Int.emod_nonneg _ (by have:=HBP.o;omega),by have:=Int.emod_lt_of_pos (A:Int) (b:=(B:Int)) (by have:=HBP.o;omega);have:=HN.o;omega⟩
  refine⟨some ⟨w.heap.size,0,none⟩,la,la,p,some ⟨w4.heap.size,0,none⟩,1,1,fun _=>(A:Int)%(B:Int),rfl,⟨HO.o.2.2.1.JK _,HO.o.1,by rw[HO.o.2.1];exact(Int.natCast_ediv _ _).symm,by omega,fun h=>by cases h⟩,
   ⟨Own.QJ (row_one w4 _ _) HO.o.2.2.2.size (fun i hi=>by omega),fun i hi=>hr0,?_,by omega,fun h=>by cases h⟩,(fun p q hp hq=>by cases hp;cases hq;dsimp only;omega),HO.o.2.2.2.alloc HO.o.2.2.2.size _⟩
  show 0+(A:Int)%(B:Int)*((pw 0:Nat):Int)=_;rw[Qb,Int.natCast_emod];omega
 ·obtain⟨al,cl,wl,hrl,hol,hnl,hbl⟩:=Zk a la ca (dgi A) w w.heap.size 24 HR.o.1 (by omega) zj;have hmk:=run_make_row' (P:=Tryz.prog) 24 160 (.int .u32 0) 4 Tryz.underlying24 Qt rfl .i64 .i64 (la+1) (by omega) (by omega);have x1:=IntWalk.i64_in ((la:Int)+1) (by omega);have x2:=IntWalk.i64_in ((la:Int)-(lb:Int)) (by omega)
  have ecast:((la+1:Nat):Int)=(la:Int)+1:=by omega
  rw[ecast] at hmk
  have hone1:((lb:Int)==1)=false:=by simp;omega
  have HOL:=qh (And.intro hol (And.intro hnl hbl));clear hol hnl hbl;have hrl':=qh hrl;clear hrl;go_enter Tryz.func225,Tryz.ntmps225;go_wp2_with (at_builtin;refine wpList_append_run rfl _ _ 24 rfl _ _ rfl rfl _ _ hrl'.o ?_)
  go_wp2_with fail
  obtain⟨W,hW⟩:∃ W,W=wl.alloc (.cells (madeCells #[Value.int IntKind.u32 0] (la+1)) 160):=⟨_,rfl⟩
  have hqo:Own 160 W w.heap.size (some ⟨wl.heap.size,0,none⟩) (la+1) (la+1) (fun _=>0):=by rw[hW];exact Own.QJ (World.rowIs_made wl (.int .u32 0) (la+1) 160) HOL.o.2.2.size (fun i hi=>by omega)
  have hlo:Own 160 W w.heap.size al la cl (dgi A):=by rw[hW];exact HOL.o.1.JK _
  have hbW:Below w.heap.size w W:=by rw[hW];exact HOL.o.2.2.alloc HOL.o.2.2.size _
  have hne:∀ p,al=some p->p.block<wl.heap.size:=fun p hp=>(HOL.o.1.blk hp).2.2
  rw[show wl.alloc (.cells (madeCells #[Value.int IntKind.u32 0] (la+1)) 160)=W from hW.symm];have HQ:=qh hqo;have HLO:=qh hlo;have HBW:=qh hbW;have HNE:=qh hne;obtain⟨gq,hgq⟩:∃ gq,gq=wl.heap.size:=⟨_,rfl⟩;rw[<- hgq] at HQ HNE ⊢;clear hW hqo hlo hbW hne hgq hmk;by_cases hll:la<lb
  ·have hk0:¬(0:Int)<=(la:Int)-(lb:Int):=by omega
   have hAB:A<B:=Kq (by rw[<- HL.o.1,<- HL.o.2];exact hll);have HAB:=qh hAB;clear hAB;go_loopw [10] (fun kv wr=>kv=.int .i64 ((la:Int)-(lb:Int))/\wr=W) (fun _ _=>0)
   case atStart=>exact⟨rfl,rfl⟩
   case round =>
    obtain⟨rfl,rfl⟩:=hrel;go_wp2_with fail
    go_ret2
    exact⟨some ⟨gq,0,none⟩,la+1,la+1,fun _=>0,al,la,cl,dgi A,rfl,⟨HQ.o,fun i hi=>by omega,by rw[XP (fun _ _=>rfl),Nat.div_eq_of_lt HAB.o];rfl,by omega,fun h=>by cases h⟩,⟨HLO.o,Js _ _,by rw[HS.o.1,Nat.mod_eq_of_lt HAB.o],by omega,HOL.o.2.1⟩,
     (fun p q hp hq=>by cases hp;have:=HNE.o q hq;dsimp only;omega),HBW.o⟩
  ·obtain⟨gl,rfl⟩:∃ gl,al=some ⟨gl,0,none⟩:=by
    rcases HLO.o.place with ⟨_,h,_⟩ | ⟨g,cur,h,_⟩
    ·omega
    ·exact⟨g,h⟩
   have hglq:gl<gq:=HNE.o _ rfl;obtain⟨n,hn⟩:∃ n,lb=n+1:=⟨lb-1,by omega⟩;obtain⟨M,hM⟩:∃ M,M+lb=la+1:=⟨la+1-lb,by omega⟩
   have hB0:0<(B:Int):=by have:=HBP.o;omega
   have hst:Xe (A:Int) (B:Int) la M (dgi A) (fun _=>0):=by
    have h:=Xe.start (la:=la) (kk:=M) (B:=(B:Int)) (lp:=dgi A) (Js _ _) (by
     rw[HS.o.1];have h1:=JG A;rw[<- HL.o.1] at h1;have h2:pw n<=B:=XC (by rw[<- HL.o.2];omega)
     have h3:pw la=pw n*pw M:=by rw[<- Yz];congr 1;omega
     have h4:pw n*pw M<=B*pw M:=Nat.mul_le_mul_right _ h2
     rw[<- Int.natCast_mul];omega)
    rw[HS.o.1] at h;exact h
   have HM:=qh hM;have HST:=qh hst;have HGL:=qh hglq;have HNN:=qh hn;have HB0:=qh hB0
   have hM1:(la:Int)-(lb:Int)=(M:Int)-1:=by omega
   have htop:0<dgi B n:=by
    have h:=YI (m:=B) (by have:=HBP.o;omega);rw[<- HL.o.2,hn,Nat.add_sub_cancel] at h;show(0:Int)<((dg B n:Nat):Int);omega
   have HTP:=qh htop;rw[hM1];clear hM hst hn hB0 hM1 htop x2;go_loopw [10] (fun kv wr=>∃ (kk:Nat) (lp qp:Nat->Int),kk<=M/\kv=.int .i64 ((kk:Int)-1)/\Xe (A:Int) (B:Int) la kk lp qp/\jc1 w wr gl gq la cl lp qp) (fun kv _=>(intOf kv+1).toNat)
   case atStart=>exact⟨M,dgi A,fun _=>0,zj,rfl,HST.o,HLO.o,HQ.o,HBW.o⟩
   case round =>
    obtain⟨kk,lp,qp,hkk,rfl,hG,hWr⟩:=hrel;obtain⟨wo,rfl⟩:∃ wo:World,wo=wr:=⟨_,rfl⟩;have KG:=qh hG;have KW:=qh hWr;clear hG hWr;by_cases hk0:kk=0
    ·subst hk0;rw[show(((0:Nat):Int)-1) = -1 from rfl];obtain⟨d1,d2⟩:=KG.o.done HB0.o;have HD:=qh (And.intro d1 d2);clear d1 d2;go_wp2_with fail
     go_ret2
     exact⟨some ⟨gq,0,none⟩,la+1,la+1,qp,some ⟨gl,0,none⟩,la,cl,lp,rfl,⟨KW.o.q,KG.o.dq,by rw[HD.o.1];exact(Int.natCast_ediv _ _).symm,by omega,fun h=>by cases h⟩,
      ⟨KW.o.l,KG.o.dl,by rw[HD.o.2];exact(Int.natCast_emod _ _).symm,by omega,fun h=>by cases h⟩,(fun p q hp hq=>by cases hp;cases hq;have:=HGL.o;dsimp only;omega),KW.o.bel⟩
    ·obtain⟨j,rfl⟩:∃ j,kk=j+1:=⟨kk-1,by omega⟩;rw[show(((j+1:Nat):Int)-1)=(j:Int) by omega];go_wp2_with fail
     go_loopw [11] (fun ov wr=>(∃ v:Value,ov=v)/\∃ (lp qp:Nat->Int),XW (A:Int) (B:Int) la j lp qp/\jc1 w wr gl gq la cl lp qp) (fun _ wr=>1000000000-cellN wr gq j)
     case atStart=>exact⟨⟨_,rfl⟩,lp,qp,KG.o.inner,KW.o⟩
     case round =>
      obtain⟨⟨ov,rfl⟩,lp2,qp2,hI,hW2⟩:=hrel;obtain⟨wi,rfl⟩:∃ wi:World,wi=wr:=⟨_,rfl⟩;have KI:=qh hI;have KW2:=qh hW2;have HMI:=qh (Zy hW2.q (i:=j) (by have:=HM.o;omega))
      have hjl:j+lb<=la:=by have:=HM.o;omega
      obtain⟨v,hv⟩:∃ v,v=dgi B n:=⟨_,rfl⟩;obtain⟨T,hT⟩:∃ T,T=YF lp2 la (j+n):=⟨_,rfl⟩;obtain⟨g,hg⟩:∃ g,g=T/(v+1):=⟨_,rfl⟩;have hgr:=jcl (m:=n) (Js B lb) HNN.o HTP.o (by rw[HS.o.2];exact hI) hjl (by rw[HS.o.2];exact HB0.o);rw[<- hv,<- hT,<- hg,HS.o.2] at hgr;obtain⟨hg0,hg1,hgL⟩:=hgr
      have hTb:0<=T/\T<=999999999999999999:=by rw[hT];exact jd4 hI.dl
      have hvb:0<v/\v<=999999999:=by rw[hv];exact⟨HTP.o,by have:=Js B (n+1) n (by omega);omega⟩
      have TOPC:=qh (fun (w':World) (hb:Below wi.heap.size wi w')=>top_any (some ⟨gl,0,none⟩) la cl (j+n) lp2 w' (hW2.l.below hb).rd hI.dl (by omega) (by have:=HNN.o;omega))
      have earg:(((j+n:Nat):Int)+1)=(j:Int)+(lb:Int):=by have:=HNN.o;omega
      rw[earg,<- hT] at TOPC;obtain⟨bb,bo,rfl,hcb⟩:=(HR.o.2.below hW2.bel).cells (by omega)
      have cb1:wi.cell? ⟨bb,bo+n,none⟩=some (.int .u32 v):=by rw[hv];exact hcb n (by have:=HNN.o;omega)
      have hbbl:bb<w.heap.size:=by obtain⟨b2,o2,e2,h2⟩:=HR.o.2.cells (by omega);cases e2;exact block_lt_of_cell (h2 0 (by omega))
      have HBL:=qh hbbl;have HC1:=qh (fun (w':World) (hb:Below wi.heap.size wi w')=>((U7 hb).1 bb (bo+n) (block_lt_of_cell cb1)).trans cb1);have xj:=IntWalk.i64_in ((j:Int)+(lb:Int)) (by omega)
      have xn:(lb:Int)-1=(n:Int):=by have:=HNN.o;omega
      have xn2:=IntWalk.i64_in (n:Int) (by omega)
      have xn3:(0:Int)<=(n:Int):=by omega
      have hnl:(n:Int)<(lb:Int):=by omega
      have hnl2:n<lb:=by omega
      have wv:=IntWalk.u64_in v (by omega);have wv1:=IntWalk.u64_in (v+1) (by omega)
      have hv1:¬v+1=0:=by omega
      have tq:T.tdiv (v+1)=g:=by rw[hg];exact Int.tdiv_eq_ediv_of_nonneg hTb.1
      have wg:=IntWalk.u64_in g (by omega);have HGL2:=qh hgL;have HG01:=qh (And.intro hg0 hg1);clear hI hW2 hv hT hg hgL hTb hcb hbbl earg
      go_upto_region 10 with (fail)
      refine Jc 15 (JM [(5,Sp.know (.int .u64 T))]) (fun w'=>Below wi.heap.size wi w') (by kernel_rfl) (by kernel_rfl)
       (Jd (Sp.Jm _) Jl) (fun _ _ h hb=>h.trans (hb.mono h.size)) (zk.drew) ?_
      simp only[zx,zy,zv,zw]
      iterate 5
       (refine Jb rfl rfl ?_ (fun w' hw'=>?_) ?_;rotate_left;· (have hb':=Has.world hw';(skip);clear hw';go_simp;try rfl))
       conv=>arg 9;simp only[Act.put,zq0,zq1,zq2]
      (refine Jf rfl rfl (fun w' hw'=>?_) ?_;· (have hb':=Has.world hw';go_simp;((refine(TOPC.o w' hb').mono ?_;rintro e w'' ⟨rfl,rfl⟩;exact⟨_,rfl,rfl,zk⟩))))
      rintro _ rfl
      conv=>arg 9;simp only[Act.put,zq0,zq1,zq2]
      iterate 9
       (refine Jb rfl rfl ?_ (fun w' hw'=>?_) ?_;rotate_left;· (have hb':=Has.world hw';(have hs:=HC1.o _ hb');clear hw';go_simp;try rfl))
       conv=>arg 9;simp only[Act.put,zq0,zq1,zq2]
      refine Jn (fun w1 hb1 hF=>?_);have KW2:=qh (KW2.o.below hb1);clear hF hb1 TOPC HC1 cb1 xn2 xn3 xn wv wv1 hv1 tq hnl hnl2 xj
      go_upto_region 11 with (fail)
      by_cases hgz:g=0
      ·subst hgz;obtain⟨LN,hLN⟩:∃ LN:Nat,(LN:Int)=Jh lp2 la:=⟨(Jh lp2 la).toNat,by have:=(JF KI.o.dl).1;omega⟩;obtain⟨DN,hDN⟩:∃ DN:Nat,DN=B*pw j:=⟨_,rfl⟩
       have hDs:Jh (Qx (dgi B) j) (j+lb)=(DN:Int):=by rw[jck,HS.o.2,hDN,Int.natCast_mul]
       have hLL:Ja LN<=la:=by
        have h:=JS KI.o.dl;rw[<- hLN,Int.toNat_natCast] at h;exact h
       have hDL:Ja DN<=j+lb:=by
        have h:=JS (ZR (k:=j) (Js B lb));rw[hDs,Int.toNat_natCast] at h;exact h
       have hmk:=run_make_row' (P:=Tryz.prog) 24 160 (.int .u32 0) 4 Tryz.underlying24 Qt rfl .i64 .i64 j (by omega) (by omega);have NUM1:=qh (fun (w':World) (hb:Below w1.heap.size w1 w')=>QR false false (some ⟨gl,0,none⟩) la cl LN w.heap.size lp2 w' (KW2.o.l.below hb) KI.o.dl (by omega) hLN.symm rfl);have NUM2:=qh (fun (w':World) (x:Nat × Nat) (ho:Own 160 w' w1.heap.size (some ⟨x.1,0,none⟩) (j+lb) x.2 (Qx (dgi B) j))=>QR false false (some ⟨x.1,0,none⟩) (j+lb) x.2 DN w1.heap.size (Qx (dgi B) j) w' ho (ZR (Js B lb)) (by omega) hDs rfl);obtain⟨cz,hcz⟩:∃ cz,cz=JB (LN:Int) (DN:Int):=⟨_,rfl⟩;have ORD:=qh (fun (w':World) (hb:Below w1.heap.size w1 w') (x:Nat × Nat) (ho:Own 160 w' w1.heap.size (some ⟨x.1,0,none⟩) (Ja DN) x.2 (dgi DN))=>KZ LN DN (some ⟨gl,0,none⟩) (some ⟨x.1,0,none⟩) cl x.2 w' (Xn (KW2.o.l.below hb) KI.o.dl hLN.symm).rd ho.rd (by omega) (by omega));rw[<- hcz] at ORD;have HLN:=qh (And.intro hLN hDN);have HCZ:=qh hcz;have HDS:=qh hDs;clear hLN hDN hcz hDs
       refine Jc 14 (JM [(4,Sp.know (Jy false (some ⟨gl,0,none⟩) (Ja LN) cl)),(7,Sp.made (fun x:Nat=>.slice (some ⟨x,0,none⟩) j j) (fun x w'=>Own 160 w' w1.heap.size (some ⟨x,0,none⟩) j j (fun _=>0))),
         (9,Sp.made (fun x:Nat × Nat=>.slice (some ⟨x.1,0,none⟩) (j+lb) x.2) (fun x w'=>Own 160 w' w1.heap.size (some ⟨x.1,0,none⟩) (j+lb) x.2 (Qx (dgi B) j))),
         (10,Sp.made (fun x:Nat × Nat=>Jy false (some ⟨x.1,0,none⟩) (Ja DN) x.2) (fun x w'=>Own 160 w' w1.heap.size (some ⟨x.1,0,none⟩) (Ja DN) x.2 (dgi DN))),(12,Sp.know (.int .i64 cz))]) (fun w'=>Below w1.heap.size w1 w') (by kernel_rfl) (by kernel_rfl)
        (Jd (Sp.Jm _) (Jd (Sp.Jg fun x w w' h hb=>h.below hb) (Jd (Sp.Jg fun x w w' h hb=>h.below hb) (Jd (Sp.Jg fun x w w' h hb=>h.below hb) (Jd (Sp.Jm _) Jl))))) (fun _ _ h hb=>h.trans (hb.mono h.size)) (zk.drew) ?_
       simp only[zx,zy,zv,zw]
       iterate 3
        (refine Jb rfl rfl ?_ (fun w' hw'=>?_) ?_;rotate_left;· (have hb':=Has.world hw';(skip);clear hw';go_simp;try rfl))
        conv=>arg 9;simp only[Act.put,zq0,zq1,zq2]
       (refine Jk (by rfl) rfl ?_ (fun w' hw'=>?_) ?_;rotate_left;· (have hb':=Has.world hw';(skip);clear hw';go_simp;try rfl))
       conv=>arg 9;simp only[Act.put,zq0,zq1,zq2]
       (refine JA (by rfl) rfl (fun w' hw'=>?_) ?_;· (have hb':=Has.world hw';go_simp;((refine(NUM1.o w' hb').mono ?_;rintro e w'' ⟨rfl,hb⟩;exact⟨_,rfl,rfl,hb⟩))))
       rintro _ rfl
       conv=>arg 9;simp only[Act.put,zq0,zq1,zq2]
       iterate 2
        (refine Jk (by rfl) rfl ?_ (fun w' hw'=>?_) ?_;rotate_left;· (have hb':=Has.world hw';(have hs:=K8 false (some ⟨gl,0,none⟩) (Ja LN) cl w');clear hw';go_simp;try rfl))
        conv=>arg 9;simp only[Act.put,zq0,zq1,zq2]
       (refine JA (by rfl) rfl (fun w' hw'=>?_) ?_;· (have hb':=Has.world hw';go_simp;((exact⟨Own.QJ (World.rowIs_made w' (.int .u32 0) j 160) hb'.size (fun i hi=>by omega),zk.alloc zj _⟩))))
       rintro _ ⟨mx,rfl⟩
       conv=>arg 9;simp only[Act.put,zq0,zq1,zq2]
       (refine Jk (by rfl) rfl ?_ (fun w' hw'=>?_) ?_;rotate_left;· (have hb':=Has.world hw';(skip);clear hw';go_simp;try rfl))
       conv=>arg 9;simp only[Act.put,zq0,zq1,zq2]
       refine JA (by rfl) rfl (fun w' hw'=>?_) ?_
       ·have hb':=hw'.world;have h7:=own_ofk (T:=160) (b:=w1.heap.size) (hw'.fact 7 (by kernel_rfl));obtain⟨g',cap',w'',hrun,ho,hb⟩:=Yx mx j (some ⟨bb,bo,none⟩) lb cb (dgi B) w' w1.heap.size 24 h7 ((HR.o.2.below KW2.o.bel).below hb') (by omega) (by omega) hlb0;exact ZZ _ _ 24 rfl rfl rfl hrun ⟨⟨⟨(g',cap'),rfl⟩,⟨(g',cap'),rfl,ho.mono hb'.size⟩⟩,hb⟩
       rintro _ ⟨ax,rfl⟩
       conv=>arg 9;simp only[Act.put,zq0,zq1,zq2]
       (refine JA (by rfl) rfl (fun w' hw'=>?_) ?_;· (have hb':=Has.world hw';go_simp;((have h9:=own_ofc (T:=160) (b:=w1.heap.size) (hw'.fact 9 (by kernel_rfl));refine(NUM2.o w' ax h9).mono ?_;rintro e w'' ⟨rfl,hb⟩;exact⟨_,rfl,⟨⟨ax.1,ax.2,rfl⟩,⟨ax.1,ax.2,rfl,Xn (h9.below hb) (ZR (Js B lb)) HDS.o⟩⟩,hb⟩))))
       rintro _ ⟨nx,rfl⟩
       conv=>arg 9;simp only[Act.put,zq0,zq1,zq2]
       (refine Jk (by rfl) rfl ?_ (fun w' hw'=>?_) ?_;rotate_left;· (have hb':=Has.world hw';(have hs:=K8 false (some ⟨nx.1,0,none⟩) (Ja DN) nx.2 w');clear hw';go_simp;try rfl))
       conv=>arg 9;simp only[Act.put,zq0,zq1,zq2]
       (refine JA (by rfl) rfl (fun w' hw'=>?_) ?_;· (have hb':=Has.world hw';go_simp;((have h10:=own_ofn (T:=160) (b:=w1.heap.size) (hw'.fact 10 (by kernel_rfl));refine(ORD.o w' hb' nx h10).mono ?_;rintro e w'' ⟨rfl,m,rfl⟩;exact⟨_,rfl,rfl,Qh zk m⟩))))
       rintro _ rfl
       conv=>arg 9;simp only[Act.put,zq0,zq1,zq2]
       (refine Jk (by rfl) rfl ?_ (fun w' hw'=>?_) ?_;rotate_left;· (have hb':=Has.world hw';(skip);clear hw';go_simp;try rfl))
       conv=>arg 9;simp only[Act.put,zq0,zq1,zq2]
       refine Jn (fun w2 hb2 hF=>?_);have KW2:=qh (KW2.o.below hb2);clear hF hb2 NUM1 NUM2 ORD hmk;by_cases hbr:cz<0
       ·have hlt:Jh lp2 la<(B:Int)*(pw j:Int):=by
         have h:=HCZ.o;rw[<- HLN.o.1,<- Int.natCast_mul,<- HLN.o.2]
         rcases Int.lt_or_le (LN:Int) (DN:Int) with h1 | h1
         ·exact h1
         ·exfalso
          rcases Int.lt_or_le (DN:Int) (LN:Int) with h2 | h2
          ·rw[JR h2] at h;omega
          ·rw[J4 (by omega)] at h;omega
        have KO:=qh (KI.o.outer hlt);have xj1:=IntWalk.i64_in ((j:Int)-1) (by omega);clear hlt;go_wp2_with fail
        go_roundw
        case rel=>exact⟨j,lp2,qp2,by have:=HM.o;omega,rfl,KO.o,KW2.o⟩
        case measure=>first | (simp[intOf];omega) | (simp[intOf];done)
       ·have hbr1:decide (cz<0)=false:=zo hbr
        have HGL2:=qh (show 1*(B:Int)*(pw j:Int)<=Jh lp2 la by
         have h:=HCZ.o;rw[Int.one_mul,<- HLN.o.1,<- Int.natCast_mul,<- HLN.o.2]
         rcases Int.lt_or_le (LN:Int) (DN:Int) with h1 | h1
         ·rw[JO h1] at h;omega
         ·exact h1)
        have HGG:=qh (show 0<(1:Int)/\(1:Int)<=999999999 from by omega)
        have hla':la=j+(la-j):=by omega
        have TK:=qh (K9 gl la cl w.heap.size j lb cb (la-j) (some ⟨bb,bo,none⟩) lp2 (dgi B) 1 w2 KW2.o.l (HR.o.2.below KW2.o.bel) (fun _ q hq=>by cases hq;have h1:=HBL.o;have h2:=(KW2.o.l.blk rfl).2.1;dsimp only at *;omega)
         KI.o.dl (Js _ _) hla' (by omega) (by omega) (by have:=HGG.o;omega))
        have HTS:=qh (KU (p:=lp2) (ob:=dgi B) (lb:=lb) (at':=j) (m:=la-j) (often:=1) (by rw[<- hla'];exact KI.o.dl) (by omega) (by rw[HS.o.2];exact Int.mul_nonneg (by have:=HGG.o;omega) (by have:=HB0.o;omega)) (by rw[HS.o.2,<- hla'];exact HGL2.o));rw[HS.o.2,<- hla'] at HTS;have STP:=qh (KI.o.step (g:=1) HB0.o (by omega) (by have:=HGG.o;omega) (KQ KI.o.dl) HTS.o);clear hla';go_wp2_with fail
        refine TK.o.mono ?_;rintro e w3 ⟨rfl,hl3,hon3,hb3⟩;have hq3:=KW2.o.q.only hon3 (fun p hp=>by cases hp;have:=HGL.o;dsimp only;omega);have cq:w3.cell? ⟨gq,j,none⟩=some (.int .u32 (qp2 j)):=hq3.cell (by omega);have fq:=hq3.fz;have hqj:=KI.o.dq j (by omega);have hqG:=STP.o.1;have hGb:=HGG.o;have ug:=IntWalk.u32_in 1 (by omega);have uq:=IntWalk.u32_in (qp2 j+1) (by omega);have HL3:=qh hl3;have HQ3:=qh hq3;have HB3:=qh (KW2.o.bel.trans hb3);have HQB:=qh (And.intro hqj hqG)
        have hjq:(j:Int)<(la:Int)+1:=by omega
        have hjq2:j<la+1:=by omega
        clear hl3 hon3 hb3 hq3 TK hqj hqG;go_wp2_with fail
        go_roundw
        case rel =>
         have h2:=(HQ3.o.blk rfl).2.1;dsimp only at h2;exact⟨⟨_,rfl⟩,_,_,STP.o.2,HL3.o.keep (fun p hp=>Below.heap_setCell _ _ _ _ (by cases hp;have:=HGL.o;dsimp only;omega)),HQ3.o.put hjq2 (by have:=HQB.o;omega),HB3.o.setCell h2 _⟩
        case measure =>
         have h3:=Zy (HQ3.o.put (t:=j) (v:=qp2 j+1) hjq2 (by have:=HQB.o;omega)) (i:=j) hjq2;rw[upd_same] at h3;rw[h3,HMI.o];have:=HQB.o;omega
      ·have hgz1:(g==0)=false:=by simpa using hgz
       refine Jc 14 (JM []) (fun w'=>Below w1.heap.size w1 w') (by kernel_rfl) (by kernel_rfl) Jl (fun _ _ h hb=>h.trans (hb.mono h.size)) (zk.drew) ?_;simp only[zx,zy,zv,zw]
       iterate 3
        (refine Jb rfl rfl ?_ (fun w' hw'=>?_) ?_;rotate_left;· (have hb':=Has.world hw';(skip);clear hw';go_simp;try rfl))
        conv=>arg 9;simp only[Act.put,zq0,zq1,zq2]
       iterate 11 (refine Qf (by rfl) ?_;conv=>arg 9;simp only[Act.put,zq0,zq1,zq2])
       refine Jn (fun w2 hb2 hF=>?_);have KW2:=qh (KW2.o.below hb2);clear hF hb2;by_cases hgone:g=1
       ·subst hgone;have HGG:=qh (show 0<(1:Int)/\(1:Int)<=999999999 from by omega)
        have hla':la=j+(la-j):=by omega
        have TK:=qh (K9 gl la cl w.heap.size j lb cb (la-j) (some ⟨bb,bo,none⟩) lp2 (dgi B) 1 w2 KW2.o.l (HR.o.2.below KW2.o.bel) (fun _ q hq=>by cases hq;have h1:=HBL.o;have h2:=(KW2.o.l.blk rfl).2.1;dsimp only at *;omega)
         KI.o.dl (Js _ _) hla' (by omega) (by omega) (by have:=HGG.o;omega))
        have HTS:=qh (KU (p:=lp2) (ob:=dgi B) (lb:=lb) (at':=j) (m:=la-j) (often:=1) (by rw[<- hla'];exact KI.o.dl) (by omega) (by rw[HS.o.2];exact Int.mul_nonneg (by have:=HGG.o;omega) (by have:=HB0.o;omega)) (by rw[HS.o.2,<- hla'];exact HGL2.o));rw[HS.o.2,<- hla'] at HTS;have STP:=qh (KI.o.step (g:=1) HB0.o (by omega) (by have:=HGG.o;omega) (KQ KI.o.dl) HTS.o);clear hla';go_wp2_with fail
        refine TK.o.mono ?_;rintro e w3 ⟨rfl,hl3,hon3,hb3⟩;have hq3:=KW2.o.q.only hon3 (fun p hp=>by cases hp;have:=HGL.o;dsimp only;omega);have cq:w3.cell? ⟨gq,j,none⟩=some (.int .u32 (qp2 j)):=hq3.cell (by omega);have fq:=hq3.fz;have hqj:=KI.o.dq j (by omega);have hqG:=STP.o.1;have hGb:=HGG.o;have ug:=IntWalk.u32_in 1 (by omega);have uq:=IntWalk.u32_in (qp2 j+1) (by omega);have HL3:=qh hl3;have HQ3:=qh hq3;have HB3:=qh (KW2.o.bel.trans hb3);have HQB:=qh (And.intro hqj hqG)
        have hjq:(j:Int)<(la:Int)+1:=by omega
        have hjq2:j<la+1:=by omega
        clear hl3 hon3 hb3 hq3 TK hqj hqG;go_wp2_with fail
        go_roundw
        case rel =>
         have h2:=(HQ3.o.blk rfl).2.1;dsimp only at h2;exact⟨⟨_,rfl⟩,_,_,STP.o.2,HL3.o.keep (fun p hp=>Below.heap_setCell _ _ _ _ (by cases hp;have:=HGL.o;dsimp only;omega)),HQ3.o.put hjq2 (by have:=HQB.o;omega),HB3.o.setCell h2 _⟩
        case measure =>
         have h3:=Zy (HQ3.o.put (t:=j) (v:=qp2 j+1) hjq2 (by have:=HQB.o;omega)) (i:=j) hjq2;rw[upd_same] at h3;rw[h3,HMI.o];have:=HQB.o;omega
       ·have hmax:1<g:=by have:=HG01.o;omega
        have hmax2:¬g<1:=by omega
        have hmax3:¬g<=1:=by omega
        have HGG:=qh (show 0<g/\g<=999999999 from by have:=HG01.o;omega)
        have hla':la=j+(la-j):=by omega
        have TK:=qh (K9 gl la cl w.heap.size j lb cb (la-j) (some ⟨bb,bo,none⟩) lp2 (dgi B) g w2 KW2.o.l (HR.o.2.below KW2.o.bel) (fun _ q hq=>by cases hq;have h1:=HBL.o;have h2:=(KW2.o.l.blk rfl).2.1;dsimp only at *;omega)
         KI.o.dl (Js _ _) hla' (by omega) (by omega) (by have:=HGG.o;omega))
        have HTS:=qh (KU (p:=lp2) (ob:=dgi B) (lb:=lb) (at':=j) (m:=la-j) (often:=g) (by rw[<- hla'];exact KI.o.dl) (by omega) (by rw[HS.o.2];exact Int.mul_nonneg (by have:=HGG.o;omega) (by have:=HB0.o;omega)) (by rw[HS.o.2,<- hla'];exact HGL2.o));rw[HS.o.2,<- hla'] at HTS;have STP:=qh (KI.o.step (g:=g) HB0.o (by omega) (by have:=HGG.o;omega) (KQ KI.o.dl) HTS.o);clear hla';go_wp2_with fail
        refine TK.o.mono ?_;rintro e w3 ⟨rfl,hl3,hon3,hb3⟩;have hq3:=KW2.o.q.only hon3 (fun p hp=>by cases hp;have:=HGL.o;dsimp only;omega);have cq:w3.cell? ⟨gq,j,none⟩=some (.int .u32 (qp2 j)):=hq3.cell (by omega);have fq:=hq3.fz;have hqj:=KI.o.dq j (by omega);have hqG:=STP.o.1;have hGb:=HGG.o;have ug:=IntWalk.u32_in g (by omega);have uq:=IntWalk.u32_in (qp2 j+g) (by omega);have HL3:=qh hl3;have HQ3:=qh hq3;have HB3:=qh (KW2.o.bel.trans hb3);have HQB:=qh (And.intro hqj hqG)
        have hjq:(j:Int)<(la:Int)+1:=by omega
        have hjq2:j<la+1:=by omega
        clear hl3 hon3 hb3 hq3 TK hqj hqG;go_wp2_with fail
        go_roundw
        case rel =>
         have h2:=(HQ3.o.blk rfl).2.1;dsimp only at h2;exact⟨⟨_,rfl⟩,_,_,STP.o.2,HL3.o.keep (fun p hp=>Below.heap_setCell _ _ _ _ (by cases hp;have:=HGL.o;dsimp only;omega)),HQ3.o.put hjq2 (by have:=HQB.o;omega),HB3.o.setCell h2 _⟩
        case measure =>
         have h3:=Zy (HQ3.o.put (t:=j) (v:=qp2 j+g) hjq2 (by have:=HQB.o;omega)) (i:=j) hjq2;rw[upd_same] at h3;rw[h3,HMI.o];have:=HQB.o;omega
end Limb
namespace Book
open Go.RowKit Go.Sort Go.FreshG Limb
theorem ZO {w w':World} {base:Nat} {T:TypeId} {sz:Nat} {v:Value} {k:Nat} {xs:List Value} {U:Nat->Prop} (h:w.ownsRow base T sz v k xs) (ht:Touch U w w') (hu:∀ g,v.ownBlock=some g->¬U g):w'.ownsRow base T sz v k xs:=by
 refine⟨h.1,h.2.imp id ?_⟩;rintro⟨g,cap,cur,hv,hlo,hg,h3⟩;exact⟨g,cap,cur,hv,hlo,(ht.block g (lt_of_block hg) (hu g (by rw[hv];rfl))).trans hg,h3⟩
theorem jfp (b base q k kt:Nat) (v u:Value) (xs ys:List Value) (a:Option Addr) (n c:Nat) (w:World) (hk:k<=30000) (hq:q<=60000) (hB:Bk2 w b base q k kt v u xs ys) (hbase:base<=w.heap.size) :
  Calls Tryz.prog 243 #[.pointer (some ⟨b,0,none⟩),.slice a n c] w fun e w'=>(∃ r,e=.returned r)/\∃ v',Bk2 w' b base (q+1) (k+1) kt v' u (xs++held a n c q) ys/\(v.ownBlock=v'.ownBlock\/∃ g,v'.ownBlock=some g/\w.heap.size<=g) /\
   Touch (fun g=>g=b\/v.ownBlock=some g) w w':=by
 obtain⟨i0,hi,hz0,hz1,hz2⟩:=info_parts Uc;have KB:=qh hB;have b0:w.cell? ⟨b,0,none⟩=some (.int .i64 q):=hB.box.cell (i:=0) (by omega);have hfz:=hB.box.frozen;have e1:=IntWalk.i64_in ((q:Int)+1) (by omega);clear hB;go_enter Tryz.func243,Tryz.ntmps243
 go_upto_region 1 with (fail)
 obtain⟨W,hW⟩:∃ W,W=w.setCell ⟨b,0,none⟩ (.int .i64 ((q:Int)+1)):=⟨_,rfl⟩
 have X:=(KB.o.box.set 0 (.int .i64 ((q:Int)+1))).congr (g:=U1 (q+1) v u) (fun i _=>by
  unfold U1;by_cases e:i=0
  ·rw[if_pos e,if_pos e];rfl
  ·rw[if_neg e,if_neg e,if_neg e])
 have R:=KB.o.Uj.kept (w':=W) (row:=some b) (by
  rw[hW]
  exact⟨rfl,rfl,rfl,by simp,fun q _ hq=>Below.heap_setCell _ _ _ _ (fun e=>hq (by simp[e]))⟩) (Or.inr KB.o.neL)
 have hsz:W.heap.size=w.heap.size:=by rw[hW];simp
 have T:=qh (show Touch (fun g=>g=b\/v.ownBlock=some g) w W by rw[hW];exact(Touch.refl _ _).setCell (p:=⟨b,0,none⟩) (Or.inl (Or.inl rfl)) _);rw[<- hW] at X;rw[show(w.setCell ⟨b,0,none⟩ (.int .i64 ((q:Int)+1)))=W from hW.symm];have HX:=qh X;have HR:=qh R;have c0:W.cell? ⟨b,0,none⟩=some (.int .i64 ((q:Int)+1)):=X.cell (i:=0) (by omega);have c2:W.cell? ⟨b,2,none⟩=some v:=X.cell (i:=2) (by omega);have hfz:=X.frozen;have hlt:=X.lt
 have hbase:base<=W.heap.size:=by omega
 have hnb:=KB.o.neL;have HZ:=qh hsz;have f2:W.frozen? ⟨b,2,none⟩=false:=hfz 2;clear X R hW b0 hsz hfz;have HV:=qh (fun g (hg:v.ownBlock=some g)=>(HR.o.lt g hg).2);have HS:=qh (fun (w':World) (h:Touch (fun g=>v.ownBlock=some g) W w')=>And.intro ((World.cell?_of_block (a:=⟨b,0,none⟩) (h.block b hlt hnb)).trans c0) (And.intro ((World.cell?_of_block (a:=⟨b,2,none⟩) (h.block b hlt hnb)).trans c2) ((World.frozen?_of_block (a:=⟨b,2,none⟩) (h.block b hlt hnb)).trans f2)));have HB:=qh hbase;have HN:=qh hnb;have HLT:=qh hlt;clear c0 c2 f2 hbase hnb hlt
 refine Jc 15 (JM [(11,Sp.made (fun g:Nat=>.slice (some ⟨g,0,none⟩) 1 1) (fun g w'=>w'.heap[g]?=some (.cells #[.slice a n c,.slice none 0 0,.int .i64 ((q:Int)+1)] 159 (0,0))/\W.heap.size<=g)),
   (12,Sp.made (fun x:Value=>x) (fun x w'=>jcz w' base k q xs a n c x/\(v.ownBlock=x.ownBlock\/∃ g,x.ownBlock=some g/\W.heap.size<=g)))])
  (G:=GrL base k q v xs a n c) (fun w'=>Touch (fun g=>v.ownBlock=some g) W w'/\w'.ownsRow base 159 3 v k xs) (by kernel_rfl) (by kernel_rfl)
  (Jd (Sp.Jg fun g w w' h hG=>⟨(hG.1.block g (lt_of_block h.1) (fun e=>by have:=HV.o g e;omega)).trans h.1,h.2⟩) (Jd (Sp.Jg fun x w w' h hG=>⟨hG.2.2 x h.1,h.2⟩) Jl))
  ⟨fun w=>GrL.refl _ _ _ _ _ _ _ _ w,fun _ _ h hG=>⟨h.1.trans hG.1,hG.2.1 h.2⟩⟩ ⟨(Touch.refl _ _).drew,HR.o.kept (row:=none) ⟨rfl,rfl,rfl,zj,fun _ _ _=>rfl⟩ (by cases v.ownBlock;exact .inl rfl;exact .inr (by simp))⟩ ?_
 simp only[zx,zy,zv,zw]
 iterate 11
  (refine Jb rfl rfl ?_ (fun w' hw'=>?_) ?_;rotate_left;· (have hb':=Has.world hw';(have hs:=HS.o _ hb'.1);clear hw';go_simp;try rfl))
 refine Jf rfl rfl (fun w' hw'=>?_) ?_
 ·have hb':=hw'.world;clear hw';go_simp;refine⟨⟨?_,hb'.1.size⟩,GrL.alloc _ _⟩;show(w'.heap.push _)[w'.heap.size]=_;simp
 rintro _ ⟨gs,rfl⟩;refine Jf rfl rfl (fun w' hw'=>?_) ?_
 ·have hb':=hw'.world;have h11:=hw'.fact 11 (by kernel_rfl);obtain⟨g',eg,hg1,hg2⟩:=h11
  cases eg
  obtain⟨x,w'',hrun,h1,h2,h3⟩:=UC hb'.2 (zm HB.o hb'.1.size) hk gs a n c hg1 41;clear hw';refine ZN (v:=v) (u:=.slice (some ⟨gs,0,none⟩) 1 1) _ _ 41 (by rfl) (by(go_simp;try rfl)) (by(go_simp;try rfl)) hrun ?_;exact⟨⟨⟨x,rfl⟩,⟨x,rfl,h1,h3.imp id fun ⟨g,e,hl⟩=>⟨g,e,zm hb'.1.size hl⟩⟩⟩,h2⟩
 rintro y ⟨z,hz⟩;obtain rfl:y=z:=hz
 iterate 2
  (refine Jb rfl rfl ?_ (fun w' hw'=>?_) ?_;rotate_left;· (have hb':=Has.world hw';(skip);clear hw';go_simp;try rfl))
 refine Jn (fun w1 hC1 hF=>?_);obtain⟨y',ey,hY1,hY2⟩:=hF 12;obtain rfl:y=y':=ey
 obtain⟨gy,cy,rfl⟩:∃ gy cy,y=Value.slice (some ⟨gy,0,none⟩) (k+1) cy:=by
  rcases hY1.2 with ⟨_,h0⟩ | ⟨g,cap,cur,e,_⟩
  ·omega
  ·exact⟨g,cap,e⟩
 have KY:=qh (And.intro hY1 hY2);have KT:=qh (T.o.trans (hC1.1.mono (fun g hg=>Or.inr hg)));have KX:=qh (HX.o.of_block (hC1.1.block b HLT.o HN.o));obtain⟨d0,d2,df⟩:=HS.o _ hC1.1;clear hF hC1 HS hY1 hY2;go_wp2_with fail
 (try simp only[Exit.inBlock,Exit.then])
 refine bodyPost_end (results_none rfl _ _ _) rfl ?_;refine⟨⟨_,rfl⟩,Value.slice (some ⟨gy,0,none⟩) (k+1) cy,⟨?_,?_,?_,?_,?_,?_⟩,?_,KT.o.setCell (p:=⟨b,2,none⟩) (Or.inl (Or.inl rfl)) _⟩
 ·refine(KX.o.set 2 (Value.slice (some ⟨gy,0,none⟩) (k+1) cy)).congr fun i _=>?_
  unfold U1;by_cases e:i=2
  ·subst e;rfl
  ·rw[if_neg e];by_cases e0:i=0
   ·rw[if_pos e0,if_pos e0]
   ·rw[if_neg e0,if_neg e0];by_cases e2:i=6
    ·subst e2;rfl
    ·rw[if_neg e,if_neg e]
 ·refine World.ownsRow.kept (row:=some b) KY.o.1 ⟨rfl,rfl,rfl,by simp,fun q _ hq=>Below.heap_setCell _ _ _ _ (fun e=>hq (by simp[e]))⟩ (Or.inr ?_)
  rcases KY.o.2 with h | ⟨g,h,hl⟩
  ·rw[<- h];exact HN.o
  ·rw[h];intro e;cases e;have:=HLT.o;omega
 ·refine ZO KB.o.rowT (KT.o.setCell (p:=⟨b,2,none⟩) (Or.inl (Or.inl rfl)) _) fun g hg hu=>?_
  rcases hu with hu | hu
  ·exact KB.o.neT (by rw[hg,hu])
  ·exact KB.o.vu g hu hg
 ·rcases KY.o.2 with h | ⟨g,h,hl⟩
  ·rw[<- h];exact HN.o
  ·rw[h];intro e;cases e;have:=HLT.o;omega
 ·exact KB.o.neT
 ·intro g hg hg2
  rcases KY.o.2 with h | ⟨g',h,hl⟩
  ·exact KB.o.vu g (h.trans hg) hg2
  ·have h9:=(KB.o.rowT.lt g hg2).2;rw[hg] at h
   injection h with h
   have:=HZ.o;omega
 ·rcases KY.o.2 with h | ⟨g,h,hl⟩
  ·exact .inl h
  ·exact .inr ⟨g,h,by have:=HZ.o;omega⟩
theorem jfq (b base q k kt:Nat) (v u:Value) (xs ys:List Value) (a:Option Addr) (n c:Nat) (w:World) (hk:kt<=30000) (hq:q<=60000) (hB:Bk2 w b base q k kt v u xs ys) (hbase:base<=w.heap.size) :
  Calls Tryz.prog 84 #[.pointer (some ⟨b,0,none⟩),.slice a n c] w fun e w'=>(∃ r,e=.returned r)/\∃ v',Bk2 w' b base (q+1) k (kt+1) v v' xs (ys++held a n c q)/\(u.ownBlock=v'.ownBlock\/∃ g,v'.ownBlock=some g/\w.heap.size<=g) /\
   Touch (fun g=>g=b\/u.ownBlock=some g) w w':=by
 obtain⟨i0,hi,hz0,hz1,hz2⟩:=info_parts Ud;have KB:=qh hB;have b0:w.cell? ⟨b,0,none⟩=some (.int .i64 q):=hB.box.cell (i:=0) (by omega);have hfz:=hB.box.frozen;have e1:=IntWalk.i64_in ((q:Int)+1) (by omega);clear hB;go_enter Tryz.func84,Tryz.ntmps84
 go_upto_region 1 with (fail)
 obtain⟨W,hW⟩:∃ W,W=w.setCell ⟨b,0,none⟩ (.int .i64 ((q:Int)+1)):=⟨_,rfl⟩
 have X:=(KB.o.box.set 0 (.int .i64 ((q:Int)+1))).congr (g:=U1 (q+1) v u) (fun i _=>by
  unfold U1;by_cases e:i=0
  ·rw[if_pos e,if_pos e];rfl
  ·rw[if_neg e,if_neg e,if_neg e])
 have R:=KB.o.rowT.kept (w':=W) (row:=some b) (by
  rw[hW]
  exact⟨rfl,rfl,rfl,by simp,fun q _ hq=>Below.heap_setCell _ _ _ _ (fun e=>hq (by simp[e]))⟩) (Or.inr KB.o.neT)
 have hsz:W.heap.size=w.heap.size:=by rw[hW];simp
 have T:=qh (show Touch (fun g=>g=b\/u.ownBlock=some g) w W by rw[hW];exact(Touch.refl _ _).setCell (p:=⟨b,0,none⟩) (Or.inl (Or.inl rfl)) _);rw[<- hW] at X;rw[show(w.setCell ⟨b,0,none⟩ (.int .i64 ((q:Int)+1)))=W from hW.symm];have HX:=qh X;have HR:=qh R;have c0:W.cell? ⟨b,0,none⟩=some (.int .i64 ((q:Int)+1)):=X.cell (i:=0) (by omega);have c2:W.cell? ⟨b,6,none⟩=some u:=X.cell (i:=6) (by omega);have hfz:=X.frozen;have hlt:=X.lt
 have hbase:base<=W.heap.size:=by omega
 have hnb:=KB.o.neT;have HZ:=qh hsz;have f2:W.frozen? ⟨b,6,none⟩=false:=hfz 6;clear X R hW b0 hsz hfz;have HV:=qh (fun g (hg:u.ownBlock=some g)=>(HR.o.lt g hg).2);have HS:=qh (fun (w':World) (h:Touch (fun g=>u.ownBlock=some g) W w')=>And.intro ((World.cell?_of_block (a:=⟨b,0,none⟩) (h.block b hlt hnb)).trans c0) (And.intro ((World.cell?_of_block (a:=⟨b,6,none⟩) (h.block b hlt hnb)).trans c2) ((World.frozen?_of_block (a:=⟨b,6,none⟩) (h.block b hlt hnb)).trans f2)));have HB:=qh hbase;have HN:=qh hnb;have HLT:=qh hlt;clear c0 c2 f2 hbase hnb hlt
 refine Jc 15 (JM [(11,Sp.made (fun g:Nat=>.slice (some ⟨g,0,none⟩) 1 1) (fun g w'=>w'.heap[g]?=some (.cells #[.slice a n c,.slice none 0 0,.int .i64 ((q:Int)+1)] 152 (0,0))/\W.heap.size<=g)),
   (12,Sp.made (fun x:Value=>x) (fun x w'=>jc0 w' base kt q ys a n c x/\(u.ownBlock=x.ownBlock\/∃ g,x.ownBlock=some g/\W.heap.size<=g)))])
  (G:=GrT base kt q u ys a n c) (fun w'=>Touch (fun g=>u.ownBlock=some g) W w'/\w'.ownsRow base 152 3 u kt ys) (by kernel_rfl) (by kernel_rfl)
  (Jd (Sp.Jg fun g w w' h hG=>⟨(hG.1.block g (lt_of_block h.1) (fun e=>by have:=HV.o g e;omega)).trans h.1,h.2⟩) (Jd (Sp.Jg fun x w w' h hG=>⟨hG.2.2 x h.1,h.2⟩) Jl))
  ⟨fun w=>GrT.refl _ _ _ _ _ _ _ _ w,fun _ _ h hG=>⟨h.1.trans hG.1,hG.2.1 h.2⟩⟩ ⟨(Touch.refl _ _).drew,HR.o.kept (row:=none) ⟨rfl,rfl,rfl,zj,fun _ _ _=>rfl⟩ (by cases u.ownBlock;exact .inl rfl;exact .inr (by simp))⟩ ?_
 simp only[zx,zy,zv,zw]
 iterate 11
  (refine Jb rfl rfl ?_ (fun w' hw'=>?_) ?_;rotate_left;· (have hb':=Has.world hw';(have hs:=HS.o _ hb'.1);clear hw';go_simp;try rfl))
 refine Jf rfl rfl (fun w' hw'=>?_) ?_
 ·have hb':=hw'.world;clear hw';go_simp;refine⟨⟨?_,hb'.1.size⟩,GrT.alloc _ _⟩;show(w'.heap.push _)[w'.heap.size]=_;simp
 rintro _ ⟨gs,rfl⟩;refine Jf rfl rfl (fun w' hw'=>?_) ?_
 ·have hb':=hw'.world;have h11:=hw'.fact 11 (by kernel_rfl);obtain⟨g',eg,hg1,hg2⟩:=h11
  cases eg
  obtain⟨x,w'',hrun,h1,h2,h3⟩:=UD hb'.2 (zm HB.o hb'.1.size) hk gs a n c hg1 45;clear hw';refine ZN (v:=u) (u:=.slice (some ⟨gs,0,none⟩) 1 1) _ _ 45 (by rfl) (by(go_simp;try rfl)) (by(go_simp;try rfl)) hrun ?_;exact⟨⟨⟨x,rfl⟩,⟨x,rfl,h1,h3.imp id fun ⟨g,e,hl⟩=>⟨g,e,zm hb'.1.size hl⟩⟩⟩,h2⟩
 rintro y ⟨z,hz⟩;obtain rfl:y=z:=hz
 iterate 2
  (refine Jb rfl rfl ?_ (fun w' hw'=>?_) ?_;rotate_left;· (have hb':=Has.world hw';(skip);clear hw';go_simp;try rfl))
 refine Jn (fun w1 hC1 hF=>?_);obtain⟨y',ey,hY1,hY2⟩:=hF 12;obtain rfl:y=y':=ey
 obtain⟨gy,cy,rfl⟩:∃ gy cy,y=Value.slice (some ⟨gy,0,none⟩) (kt+1) cy:=by
  rcases hY1.2 with ⟨_,h0⟩ | ⟨g,cap,cur,e,_⟩
  ·omega
  ·exact⟨g,cap,e⟩
 have KY:=qh (And.intro hY1 hY2);have KT:=qh (T.o.trans (hC1.1.mono (fun g hg=>Or.inr hg)));have KX:=qh (HX.o.of_block (hC1.1.block b HLT.o HN.o));obtain⟨d0,d2,df⟩:=HS.o _ hC1.1;clear hF hC1 HS hY1 hY2;go_wp2_with fail
 (try simp only[Exit.inBlock,Exit.then])
 refine bodyPost_end (results_none rfl _ _ _) rfl ?_;refine⟨⟨_,rfl⟩,Value.slice (some ⟨gy,0,none⟩) (kt+1) cy,⟨?_,?_,?_,?_,?_,?_⟩,?_,KT.o.setCell (p:=⟨b,6,none⟩) (Or.inl (Or.inl rfl)) _⟩
 ·refine(KX.o.set 6 (Value.slice (some ⟨gy,0,none⟩) (kt+1) cy)).congr fun i _=>?_
  unfold U1;by_cases e:i=6
  ·subst e;rfl
  ·rw[if_neg e];by_cases e0:i=0
   ·rw[if_pos e0,if_pos e0]
   ·rw[if_neg e0,if_neg e0];by_cases e2:i=2
    ·rw[if_pos e2,if_pos e2]
    ·rw[if_neg e2,if_neg e2,if_neg e,if_neg e]
 ·refine ZO KB.o.Uj (KT.o.setCell (p:=⟨b,6,none⟩) (Or.inl (Or.inl rfl)) _) fun g hg hu=>?_
  rcases hu with hu | hu
  ·exact KB.o.neL (by rw[hg,hu])
  ·exact KB.o.vu g hg hu
 ·refine World.ownsRow.kept (row:=some b) KY.o.1 ⟨rfl,rfl,rfl,by simp,fun q _ hq=>Below.heap_setCell _ _ _ _ (fun e=>hq (by simp[e]))⟩ (Or.inr ?_)
  rcases KY.o.2 with h | ⟨g,h,hl⟩
  ·rw[<- h];exact HN.o
  ·rw[h];intro e;cases e;have:=HLT.o;omega
 ·exact KB.o.neL
 ·rcases KY.o.2 with h | ⟨g,h,hl⟩
  ·rw[<- h];exact HN.o
  ·rw[h];intro e;cases e;have:=HLT.o;omega
 ·intro g hg hg2
  rcases KY.o.2 with h | ⟨g',h,hl⟩
  ·exact KB.o.vu g hg (h.trans hg2)
  ·have h9:=(KB.o.Uj.lt g hg).2;rw[hg2] at h
   injection h with h
   have:=HZ.o;omega
 ·rcases KY.o.2 with h | ⟨g,h,hl⟩
  ·exact .inl h
  ·exact .inr ⟨g,h,by have:=HZ.o;omega⟩
end Book
namespace Limb
open Go.RowKit Go.Sort Go.Fresh
def DivF (w:World) (x y:Int) (e:Ending) (w':World):Prop :=
 ∃ aq cq ar cr,e=.returned (.tuple #[Jy (decide (x/y<0)) aq (Ja (x/y).natAbs) cq,Jy (decide (x%y<0)) ar (Ja (x%y).natAbs) cr,.int .i64 0]) /\
  Own 160 w' w.heap.size aq (Ja (x/y).natAbs) cq (dgi (x/y).natAbs)/\Own 160 w' w.heap.size ar (Ja (x%y).natAbs) cr (dgi (x%y).natAbs)/\Below w.heap.size w w'
theorem XT.numr {w:World} {lo:Nat} {a:Option Addr} {K c N:Nat} {o:Nat->Int} (h:XT w lo a K c N o):Own 160 w lo a (Ja N) c (dgi N):=Xn h.own h.dig h.sum
open Classical in
theorem Ky (z1 z2:Int) (a1 a2:Option Addr) (c1 c2:Nat) (w:World) (h1:Rd w a1 (Ja z1.natAbs) (dgi z1.natAbs)) (hn1:Ja z1.natAbs<=10000000) (hc1:Ja z1.natAbs<=c1) (h2:Rd w a2 (Ja z2.natAbs) (dgi z2.natAbs)) (hn2:Ja z2.natAbs<=10000000) (hc2:Ja z2.natAbs<=c2) (hz:z2≠0) :
  Calls Tryz.prog 143 #[Jy (decide (z1<0)) a1 (Ja z1.natAbs) c1,Jy (decide (z2<0)) a2 (Ja z2.natAbs) c2] w (DivF w z1 z2):=by
 obtain⟨N1,hN1⟩:∃ N1,N1=Ja z1.natAbs:=⟨_,rfl⟩;obtain⟨N2,hN2⟩:∃ N2,N2=Ja z2.natAbs:=⟨_,rfl⟩;obtain⟨s1,hs1⟩:∃ s1,s1=decide (z1<0):=⟨_,rfl⟩;obtain⟨s2,hs2⟩:∃ s2,s2=decide (z2<0):=⟨_,rfl⟩
 have hpos:0<N2:=by rw[hN2];exact Xm.2 (by omega)
 have ok1:=J9 z1;have ok2:=J9 z2;have HZ:=qh hz;rw[<- hN1,<- hs1] at ok1;rw[<- hN2,<- hs2] at ok2;rw[<- hN1] at h1 hn1 hc1 ⊢;rw[<- hN2] at h2 hn2 hc2 ⊢;rw[<- hs1,<- hs2];have CK1:=qh (fun (w':World) (hb:Below w.heap.size w w')=>Q7 s1 a1 N1 c1 (dgi z1.natAbs) w' (h1.below hb) (by omega));have CK2:=qh (fun (w':World) (hb:Below w.heap.size w w')=>Q7 s2 a2 N2 c2 (dgi z2.natAbs) w' (h2.below hb) (by omega));rw[decide_eq_true ok1] at CK1;rw[decide_eq_true ok2] at CK2;have HR:=qh (And.intro h1 h2);have HE:=qh (And.intro (And.intro hN1 hN2) (And.intro hs1 hs2));have B1:=((((Bx.new w 26 (.bool s1) (.slice a1 N1 c1)).alloc (.cells #[.bool s2,.slice a2 N2 c2] 26)).alloc (.cells #[.bool false,.slice none 0 0] 26)).alloc (.cells #[.bool false,.slice none 0 0] 26));have B2:=(((Bx.X6 w (.cells #[.bool s1,.slice a1 N1 c1] 26) 26 (.bool s2) (.slice a2 N2 c2)).alloc (.cells #[.bool false,.slice none 0 0] 26)).alloc (.cells #[.bool false,.slice none 0 0] 26));have B3:=((Bx.new3 w (.cells #[.bool s1,.slice a1 N1 c1] 26) (.cells #[.bool s2,.slice a2 N2 c2] 26) 26 (.bool false) (.slice none 0 0)).alloc (.cells #[.bool false,.slice none 0 0] 26));have B4:=(Bx.new4 w (.cells #[.bool s1,.slice a1 N1 c1] 26) (.cells #[.bool s2,.slice a2 N2 c2] 26) (.cells #[.bool false,.slice none 0 0] 26) 26 (.bool false) (.slice none 0 0));clear ok1 ok2 h1 h2 hN1 hN2 hs1 hs2 hz;go_enter Tryz.func143,Tryz.ntmps143
 go_upto_region 1 with (fail)
 obtain⟨W,hW⟩:∃ W,W=((((w.alloc (.cells #[.bool s1,.slice a1 N1 c1] 26)).alloc (.cells #[.bool s2,.slice a2 N2 c2] 26)).alloc (.cells #[.bool false,.slice none 0 0] 26)).alloc (.cells #[.bool false,.slice none 0 0] 26)):=⟨_,rfl⟩;have G1:=qh ((zk.alloc (by go_size) _ |>.alloc (by go_size) _ |>.alloc (by go_size) _ |>.alloc (by go_size) _):Below w.heap.size w ((((w.alloc (.cells #[.bool s1,.slice a1 N1 c1] 26)).alloc (.cells #[.bool s2,.slice a2 N2 c2] 26)).alloc (.cells #[.bool false,.slice none 0 0] 26)).alloc (.cells #[.bool false,.slice none 0 0] 26)))
 have hWs:w.heap.size+1+1+1+1=W.heap.size:=by rw[hW];simp
 rw[<- hW] at B1 B2 B3 B4 G1;rw[show((((w.alloc (.cells #[.bool s1,.slice a1 N1 c1] 26)).alloc (.cells #[.bool s2,.slice a2 N2 c2] 26)).alloc (.cells #[.bool false,.slice none 0 0] 26)).alloc (.cells #[.bool false,.slice none 0 0] 26))=W from hW.symm];clear hW;have HB1:=qh B1;have HB2:=qh B2;have HB3:=qh B3;have HB4:=qh B4;have HWS:=qh hWs;clear B1 B2 B3 B4 hWs
 have fb:=fun (w':World) (hb:Below W.heap.size W w')=>And.intro (HB1.o.bl hb) (And.intro (HB2.o.bl hb) (And.intro (HB3.o.bl hb) (HB4.o.bl hb)))
 have FB:=qh fb;clear fb;obtain⟨b10,b11,b12,b13⟩:=HB1.o.all;obtain⟨b20,b21,b22,b23⟩:=HB2.o.all;go_wp2_with fail
 refine(CK1.o _ G1.o).mono ?_;rintro e w1 ⟨rfl,hb1⟩;have K:=FB.o _ hb1;have GB:=qh hb1;clear b10 b11 b12 b13 b20 b21 b22 b23 hb1;obtain⟨b20,b21,b22,b23⟩:=K.2.1.all;clear K;go_wp2_with fail
 refine(CK2.o _ (G1.o.trans (GB.o.mono G1.o.size))).mono ?_;rintro e w2 ⟨rfl,hb2⟩;have GB:=qk GB hb2;have K:=FB.o _ GB.o;clear b20 b21 b22 b23 hb2 CK1 CK2;obtain⟨b10,b11,b12,b13⟩:=K.1.all;obtain⟨b20,b21,b22,b23⟩:=K.2.1.all;clear K;have hne0:decide ((N2:Int)=0)=false:=zo (by omega)
 have hne1:((N2:Int)==0)=false:=by simp;omega
 have hG2:=G1.o.trans (GB.o.mono G1.o.size);have GO:=qh (goes_any z1.natAbs z2.natAbs a1 a2 N1 N2 c1 c2 w2 (HR.o.1.below hG2) (HR.o.2.below hG2) HE.o.1.1 HE.o.1.2 hn1 hn2 (by have:=HZ.o;omega));clear hG2;go_wp2_with fail
 refine GO.o.mono ?_;rintro e w3 ⟨o1,K1,d1,p1,o2,K2,d2,p2,rfl,hA1,hA2,hap,hb3⟩;have HW2:=qh GB.o.size;have GB:=qk GB hb3;have HA1:=qh hA1;have HA2:=qh hA2;have K:=FB.o _ GB.o;clear hA1 hA2 hap hb3 GO b10 b11 b12 b13 b20 b21 b22 b23;obtain⟨b10,b11,b12,b13⟩:=K.1.all;obtain⟨b20,b21,b22,b23⟩:=K.2.1.all;clear K;obtain⟨sq,hsq⟩:∃ sq,sq=decide (q0 z1 z2<0):=⟨_,rfl⟩;obtain⟨sr,hsr⟩:∃ sr,sr=decide (r0 z1 z2<0):=⟨_,rfl⟩;obtain⟨Lq,hLq⟩:∃ Lq,Lq=Ja (z1.natAbs/z2.natAbs):=⟨_,rfl⟩;obtain⟨Lr,hLr⟩:∃ Lr,Lr=Ja (z1.natAbs%z2.natAbs):=⟨_,rfl⟩;have CQ:=qh (QR (!(s1==s2)) sq o1 K1 d1 _ w2.heap.size p1 w3 HA1.o.own HA1.o.dig (by have:=HA1.o.le;omega) HA1.o.sum (by rw[HE.o.2.1,HE.o.2.2,hsq];exact jd1 z1 z2));rw[<- hLq] at CQ;have HSQ:=qh (And.intro (And.intro hsq hsr) (And.intro hLq hLr));clear hsq hsr hLq hLr;go_wp2_with fail
 refine CQ.o.mono ?_;rintro e w4 ⟨rfl,hb4⟩;have GB:=qk GB hb4;have HA1:=qh (HA1.o.below hb4);have HA2:=qh (HA2.o.below hb4);have K:=FB.o _ GB.o;clear hb4 CQ b10 b11 b12 b13 b20 b21 b22 b23;obtain⟨b10,b11,b12,b13⟩:=K.1.all;clear K
 go_upto_region 7 with (fail)
 have hG4:=qh GB.o.size;obtain⟨w5,hw5⟩:∃ w5,w5=w4.alloc (.cells #[.bool sq,.slice o1 Lq d1] 26):=⟨_,rfl⟩
 have hb5:Below w4.heap.size w4 w5:=by rw[hw5];exact zk.alloc zj _
 have HQB:=qh (show Bx w5 w4.heap.size 26 (.bool sq) (.slice o1 Lq d1) by rw[hw5];exact Bx.new w4 _ _ _);rw[show w4.alloc (.cells #[.bool sq,.slice o1 Lq d1] 26)=w5 from hw5.symm];have GB:=qk GB hb5;have HA1:=qh (HA1.o.below hb5);have HA2:=qh (HA2.o.below hb5);obtain⟨bq,hbq⟩:∃ bq,bq=w4.heap.size:=⟨_,rfl⟩;have HBW:=qh (show W.heap.size<=bq by rw[hbq];exact hG4.o);rw[<- hbq] at HQB ⊢;clear hb5 hw5 hbq b10 b11 b12 b13;have K:=FB.o _ GB.o;obtain⟨b10,b11,b12,b13⟩:=K.1.all;clear K;have CR:=qh (QR s1 sr o2 K2 d2 _ w2.heap.size p2 w5 HA2.o.own HA2.o.dig (by have:=HA2.o.le;omega) HA2.o.sum (by rw[HE.o.2.1,HSQ.o.1.2];exact jd2 z1 z2));rw[<- HSQ.o.2.2] at CR;go_wp2_with fail
 refine CR.o.mono ?_;rintro e w6 ⟨rfl,hb6⟩;have GB:=qk GB hb6;have HA1:=qh (HA1.o.below hb6);have HA2:=qh (HA2.o.below hb6);have HQB:=qh (HQB.o.bl hb6);clear hb6 CR b10 b11 b12 b13
 go_upto_region 8 with (fail)
 obtain⟨V,hV⟩:∃ V,V=w6.alloc (.cells #[.bool sr,.slice o2 Lr d2] 26):=⟨_,rfl⟩
 have hbV:Below w6.heap.size w6 V:=by rw[hV];exact zk.alloc zj _
 have HRB:=qh (show Bx V w6.heap.size 26 (.bool sr) (.slice o2 Lr d2) by rw[hV];exact Bx.new w6 _ _ _);rw[show w6.alloc (.cells #[.bool sr,.slice o2 Lr d2] 26)=V from hV.symm];have GB:=qk GB hbV;have HQ:=qh (HA1.o.below hbV);have HRM:=qh (HA2.o.below hbV);have hq6:=HQB.o.lt;have HQB:=qh (HQB.o.bl hbV);obtain⟨br,hbr⟩:∃ br,br=w6.heap.size:=⟨_,rfl⟩
 have hbqr:bq<br:=by rw[hbr];exact hq6
 clear hq6;rw[<- hbr] at HRB ⊢;have HBQ:=qh hbqr;clear hbV hV hbr hbqr HA1 HA2;have HK:=qh (FB.o _ GB.o);have HGV:=qh (G1.o.trans (GB.o.mono G1.o.size));obtain⟨b10,b11,b12,b13⟩:=HQB.o.all;obtain⟨b20,b21,b22,b23⟩:=HRB.o.all;obtain⟨b30,b31,b32,b33⟩:=HK.o.2.2.1.all;obtain⟨b40,b41,b42,b43⟩:=HK.o.2.2.2.all;have hws:=HWS.o;have hbw:=HBW.o;have hbb:=HBQ.o
 have ne1:¬bq=w.heap.size+1+1:=by omega
 have ne2:¬bq=w.heap.size+1+1+1:=by omega
 have ne3:¬br=w.heap.size+1+1:=by omega
 have ne4:¬br=w.heap.size+1+1+1:=by omega
 have ne5:¬w.heap.size+1+1=bq:=by omega
 have ne6:¬w.heap.size+1+1+1=bq:=by omega
 have ne7:¬w.heap.size+1+1=br:=by omega
 have ne8:¬w.heap.size+1+1+1=br:=by omega
 clear hws hbw hbb;by_cases hng:r0 z1 z2<0
 ·have esr:sr=true:=HSQ.o.1.2.trans (decide_eq_true hng);have DS:=qh (jbj HZ.o hng);subst esr;clear hng;have OF:=qh (K7 1 V (by omega) (by omega));go_wp2_with fail
  refine OF.o.mono ?_;rintro e w7 ⟨ay,cy,rfl,hoy,hb7⟩;rw[show(1:Int).natAbs=1 from rfl] at hoy;have HOY:=qh hoy;have HB7:=qh hb7;have HB2:=qh (HK.o.2.1.below hb7 HK.o.2.1.lt);clear hoy hb7 OF b10 b11 b12 b13 b20 b21 b22 b23 b30 b31 b32 b33 b40 b41 b42 b43;obtain⟨b20,b21,b22,b23⟩:=HB2.o.all;obtain⟨Q,hQ⟩:∃ Q,Q=z1/z2:=⟨_,rfl⟩;obtain⟨R,hR⟩:∃ R,R=z1%z2:=⟨_,rfl⟩;have HQR:=qh (And.intro hQ hR)
  have hq1:Jq sq Lq (dgi (z1.natAbs/z2.natAbs))=q0 z1 z2:=by rw[HSQ.o.1.1,HSQ.o.2.1,<- U8,Jj]
  have hr1:Jq true Lr (dgi (z1.natAbs%z2.natAbs))=r0 z1 z2:=by rw[HSQ.o.1.2,HSQ.o.2.2,<- U9,Jj]
  have ho1:Jq false (Ja 1) (dgi 1)=1:=Jj 1
  have hz2:Jq s2 N2 (dgi z2.natAbs)=z2:=by rw[HE.o.2.2,HE.o.1.2,Jj]
  have HVV:=qh (And.intro (And.intro hq1 hr1) (And.intro ho1 hz2));clear hQ hR hq1 hr1 ho1 hz2
  cases hs2:s2 with
  | true =>
   have hyz:z2<0:=by
    have h:=HE.o.2.2;rw[hs2] at h
    first | exact of_decide_eq_true h.symm | exact of_decide_eq_false h.symm
   subst hs2
   have eQ:Jq sq Lq (dgi (z1.natAbs/z2.natAbs))+Jq false (Ja 1) (dgi 1)=Q:=by
    rw[HVV.o.1.1,HVV.o.2.1,HQR.o.1,DS.o.1]
    first | rw[if_pos hyz] | rw[if_neg hyz]
    try omega
   have eR:Jq true Lr (dgi (z1.natAbs%z2.natAbs))-Jq true N2 (dgi z2.natAbs)=R:=by
    rw[HVV.o.1.2,HVV.o.2.2,HQR.o.2,DS.o.2];omega
   have hl1:Lq<=10000000:=by have:=JQ (Nat.div_le_self z1.natAbs z2.natAbs);rw[<- HSQ.o.2.1,<- HE.o.1.1] at this;omega
   have hl2:Lr<=10000000:=by have:=JQ (Nat.le_of_lt (Nat.mod_lt z1.natAbs (show 0<z2.natAbs by have:=HZ.o;omega)));rw[<- HSQ.o.2.2,<- HE.o.1.2] at this;omega
   have hl3:Ja 1<=1:=QO (by decide)
   have ho1:Rd V o1 Lq (dgi (z1.natAbs/z2.natAbs)):=by rw[HSQ.o.2.1];exact HQ.o.numr.rd
   have ho2:Rd V o2 Lr (dgi (z1.natAbs%z2.natAbs)):=by rw[HSQ.o.2.2];exact HRM.o.numr.rd
   have hd1:Lq<=d1:=by rw[HSQ.o.2.1];exact HQ.o.numr.le
   have hd2:Lr<=d2:=by rw[HSQ.o.2.2];exact HRM.o.numr.le
   have hcy:=HOY.o.le;obtain⟨U,hU⟩:∃ U,U=w7.alloc (.cells #[.bool false,.slice ay (Ja 1) cy] 26):=⟨_,rfl⟩
   have hbU:Below V.heap.size V U:=by rw[hU];exact HB7.o.alloc HB7.o.size _
   have HX1:=qh (show Bx U w7.heap.size 26 (.bool false) (.slice ay (Ja 1) cy) by rw[hU];exact Bx.new w7 _ _ _)
   have hoU:Own 160 U V.heap.size ay (Ja 1) cy (dgi 1):=by rw[hU];exact HOY.o.JK _
   have HUD:=qh hU;have AD1:=qh (fun (w':World) (hb:Below U.heap.size U w')=>Kh sq o1 Lq d1 (dgi (z1.natAbs/z2.natAbs)) false ay (Ja 1) cy (dgi 1) w' ((ho1.below hbU).below hb) (by omega) hd1 (hoU.rd.below hb) (by omega) hcy);have AD2:=qh (fun (w':World) (hb:Below U.heap.size U w')=>jbr true o2 Lr d2 (dgi (z1.natAbs%z2.natAbs)) true a2 N2 c2 (dgi z2.natAbs) w' ((ho2.below hbU).below hb) (by omega) hd2 (HR.o.2.below ((HGV.o.trans (hbU.mono HGV.o.size)).trans (hb.mono (zm HGV.o.size hbU.size)))) (by omega) hc2);rw[eQ] at AD1;rw[eR] at AD2;have HS:=qh (fun (w':World) (hb:Below U.heap.size U w')=>And.intro (And.intro ((HQB.o.bl hbU).below hb (HQB.o.bl hbU).lt) ((HRB.o.bl hbU).below hb (HRB.o.bl hbU).lt)) (And.intro (HX1.o.bl hb) ((HK.o.2.1.below hbU HK.o.2.1.lt).below hb (HK.o.2.1.below hbU HK.o.2.1.lt).lt)));have HS2:=qh (fun (w':World) (hb:Below U.heap.size U w')=>And.intro ((HK.o.2.2.1.below hbU HK.o.2.2.1.lt).below hb (HK.o.2.2.1.below hbU HK.o.2.2.1.lt).lt) ((HK.o.2.2.2.below hbU HK.o.2.2.2.lt).below hb (HK.o.2.2.2.below hbU HK.o.2.2.2.lt).lt));have HBU:=qh hbU;clear eQ eR hl1 hl2 hl3 ho1 ho2 hd1 hd2 hcy hU hbU hoU hyz
   go_upto_region 12 with (fail)
   rw[show w7.alloc (.cells #[.bool false,.slice ay (Ja 1) cy] 26)=U from HUD.o.symm];clear HUD b20 b21 b22 b23
   refine Jc 5 (JM [(2,Sp.made (fun x:Option Addr × Nat=>Jy (decide (Q<0)) x.1 (Ja Q.natAbs) x.2) (fun x w'=>Own 160 w' U.heap.size x.1 (Ja Q.natAbs) x.2 (dgi Q.natAbs)))]) (fun w'=>Below U.heap.size U w') (by kernel_rfl) (by kernel_rfl)
    (Jd (Sp.Jg fun x w w' h hb=>h.below hb) Jl) (fun _ _ h hb=>h.trans (hb.mono h.size)) (zk.drew) ?_
   simp only[zx,zy,zv,zw]
   iterate 2
    (refine Jb rfl rfl ?_ (fun w' hw'=>?_) ?_;rotate_left;· (have hb':=Has.world hw';(obtain⟨x0,x1,x2,x3⟩:=(HS.o _ hb').1.1.all;obtain⟨x0,x1,x2,x3⟩:=(HS.o _ hb').2.1.all);clear hw';go_simp;try rfl))
    conv=>arg 9;simp only[Act.put,zq0,zq1,zq2]
   (refine Jf rfl rfl (fun w' hw'=>?_) ?_;· (have hb':=Has.world hw';go_simp;((refine(AD1.o w' hb').mono ?_;rintro e w'' ⟨a,c,rfl,ho,hb⟩;exact⟨_,rfl,⟨⟨a,c,rfl⟩,⟨a,c,rfl,ho.mono hb'.size⟩⟩,hb⟩))))
   rintro _ ⟨x,rfl⟩
   conv=>arg 9;simp only[Act.put,zq0,zq1,zq2]
   iterate 2
    (refine Jb rfl rfl ?_ (fun w' hw'=>?_) ?_;rotate_left;· (have hb':=Has.world hw';(obtain⟨x0,x1,x2,x3⟩:=(HS.o _ hb').1.2.all;obtain⟨x0,x1,x2,x3⟩:=(HS.o _ hb').2.2.all);clear hw';go_simp;try rfl))
    conv=>arg 9;simp only[Act.put,zq0,zq1,zq2]
   refine Jn (fun w8 hb8 hF=>?_);have HXQ:=qh (JW (T:=160) (b:=U.heap.size) (s:=decide (Q<0)) (L:=Ja Q.natAbs) (o:=dgi Q.natAbs) (x:=x) (hF 2));have A2:=qh (AD2.o w8 hb8);have HB8:=qh hb8;clear hF hb8 AD1 AD2;go_wp2_with fail
   refine A2.o.mono ?_;rintro e w9 ⟨y9,c9,rfl,hoy,hb9⟩;have HB9:=qh (HB8.o.trans (hb9.mono HB8.o.size));have HXQ9:=qh (HXQ.o.below hb9);have HOY:=qh hoy;have M:=HS2.o _ HB9.o;have HM:=qh M;clear hoy hb9 A2;obtain⟨b30,b31,b32,b33⟩:=M.1.all;obtain⟨b40,b41,b42,b43⟩:=M.2.all;clear M;go_wp2_with fail
   have s1':=HB8.o.size;have s2':=HBU.o.size;have s3':=GB.o.size;have s4':=HWS.o;have k3:=((HM.o.1.set (.bool (decide (Q<0))) (.slice x.1 (Ja Q.natAbs) x.2)).other (a:=⟨w.heap.size+1+1+1,0,none⟩) (by dsimp only;omega) (.bool (decide (R<0)))).other (a:=⟨w.heap.size+1+1+1,1,none⟩) (by dsimp only;omega) (.slice y9 (Ja R.natAbs) c9);have k4:=((HM.o.2.other (a:=⟨w.heap.size+1+1,0,none⟩) (by dsimp only;omega) (.bool (decide (Q<0)))).other (a:=⟨w.heap.size+1+1,1,none⟩) (by dsimp only;omega) (.slice x.1 (Ja Q.natAbs) x.2)).set (.bool (decide (R<0))) (.slice y9 (Ja R.natAbs) c9);refine bodyPost_ret (Xz rfl _ _ _ _ _ _ _ _ _ _ _ rfl k3 rfl k4 Tryz.underlying26 rfl (by kernel_rfl) (by kernel_rfl)) rfl ?_;unfold DivF;rw[<- HQR.o.1,<- HQR.o.2];refine⟨x.1,x.2,y9,c9,rfl,?_,?_,?_⟩
   ·exact((((HXQ9.o.oz).oz).oz).oz).mono (by omega)
   ·exact((((HOY.o.oz).oz).oz).oz).mono (by omega)
   ·have h:=(HGV.o.trans (HBU.o.mono HGV.o.size)).trans (HB9.o.mono (zm HGV.o.size HBU.o.size))
    exact(((h.sc).sc).sc).sc
  | false =>
   have hyz:¬z2<0:=by
    have h:=HE.o.2.2;rw[hs2] at h
    first | exact of_decide_eq_true h.symm | exact of_decide_eq_false h.symm
   subst hs2
   have eQ:Jq sq Lq (dgi (z1.natAbs/z2.natAbs))-Jq false (Ja 1) (dgi 1)=Q:=by
    rw[HVV.o.1.1,HVV.o.2.1,HQR.o.1,DS.o.1]
    first | rw[if_pos hyz] | rw[if_neg hyz]
    try omega
   have eR:Jq true Lr (dgi (z1.natAbs%z2.natAbs))+Jq false N2 (dgi z2.natAbs)=R:=by
    rw[HVV.o.1.2,HVV.o.2.2,HQR.o.2,DS.o.2];omega
   have hl1:Lq<=10000000:=by have:=JQ (Nat.div_le_self z1.natAbs z2.natAbs);rw[<- HSQ.o.2.1,<- HE.o.1.1] at this;omega
   have hl2:Lr<=10000000:=by have:=JQ (Nat.le_of_lt (Nat.mod_lt z1.natAbs (show 0<z2.natAbs by have:=HZ.o;omega)));rw[<- HSQ.o.2.2,<- HE.o.1.2] at this;omega
   have hl3:Ja 1<=1:=QO (by decide)
   have ho1:Rd V o1 Lq (dgi (z1.natAbs/z2.natAbs)):=by rw[HSQ.o.2.1];exact HQ.o.numr.rd
   have ho2:Rd V o2 Lr (dgi (z1.natAbs%z2.natAbs)):=by rw[HSQ.o.2.2];exact HRM.o.numr.rd
   have hd1:Lq<=d1:=by rw[HSQ.o.2.1];exact HQ.o.numr.le
   have hd2:Lr<=d2:=by rw[HSQ.o.2.2];exact HRM.o.numr.le
   have hcy:=HOY.o.le;obtain⟨U,hU⟩:∃ U,U=w7.alloc (.cells #[.bool false,.slice ay (Ja 1) cy] 26):=⟨_,rfl⟩
   have hbU:Below V.heap.size V U:=by rw[hU];exact HB7.o.alloc HB7.o.size _
   have HX1:=qh (show Bx U w7.heap.size 26 (.bool false) (.slice ay (Ja 1) cy) by rw[hU];exact Bx.new w7 _ _ _)
   have hoU:Own 160 U V.heap.size ay (Ja 1) cy (dgi 1):=by rw[hU];exact HOY.o.JK _
   have HUD:=qh hU;have AD1:=qh (fun (w':World) (hb:Below U.heap.size U w')=>jbr sq o1 Lq d1 (dgi (z1.natAbs/z2.natAbs)) false ay (Ja 1) cy (dgi 1) w' ((ho1.below hbU).below hb) (by omega) hd1 (hoU.rd.below hb) (by omega) hcy);have AD2:=qh (fun (w':World) (hb:Below U.heap.size U w')=>Kh true o2 Lr d2 (dgi (z1.natAbs%z2.natAbs)) false a2 N2 c2 (dgi z2.natAbs) w' ((ho2.below hbU).below hb) (by omega) hd2 (HR.o.2.below ((HGV.o.trans (hbU.mono HGV.o.size)).trans (hb.mono (zm HGV.o.size hbU.size)))) (by omega) hc2);rw[eQ] at AD1;rw[eR] at AD2;have HS:=qh (fun (w':World) (hb:Below U.heap.size U w')=>And.intro (And.intro ((HQB.o.bl hbU).below hb (HQB.o.bl hbU).lt) ((HRB.o.bl hbU).below hb (HRB.o.bl hbU).lt)) (And.intro (HX1.o.bl hb) ((HK.o.2.1.below hbU HK.o.2.1.lt).below hb (HK.o.2.1.below hbU HK.o.2.1.lt).lt)));have HS2:=qh (fun (w':World) (hb:Below U.heap.size U w')=>And.intro ((HK.o.2.2.1.below hbU HK.o.2.2.1.lt).below hb (HK.o.2.2.1.below hbU HK.o.2.2.1.lt).lt) ((HK.o.2.2.2.below hbU HK.o.2.2.2.lt).below hb (HK.o.2.2.2.below hbU HK.o.2.2.2.lt).lt));have HBU:=qh hbU;clear eQ eR hl1 hl2 hl3 ho1 ho2 hd1 hd2 hcy hU hbU hoU hyz
   go_upto_region 13 with (fail)
   rw[show w7.alloc (.cells #[.bool false,.slice ay (Ja 1) cy] 26)=U from HUD.o.symm];clear HUD b20 b21 b22 b23
   refine Jc 5 (JM [(2,Sp.made (fun x:Option Addr × Nat=>Jy (decide (Q<0)) x.1 (Ja Q.natAbs) x.2) (fun x w'=>Own 160 w' U.heap.size x.1 (Ja Q.natAbs) x.2 (dgi Q.natAbs)))]) (fun w'=>Below U.heap.size U w') (by kernel_rfl) (by kernel_rfl)
    (Jd (Sp.Jg fun x w w' h hb=>h.below hb) Jl) (fun _ _ h hb=>h.trans (hb.mono h.size)) (zk.drew) ?_
   simp only[zx,zy,zv,zw]
   iterate 2
    (refine Jb rfl rfl ?_ (fun w' hw'=>?_) ?_;rotate_left;· (have hb':=Has.world hw';(obtain⟨x0,x1,x2,x3⟩:=(HS.o _ hb').1.1.all;obtain⟨x0,x1,x2,x3⟩:=(HS.o _ hb').2.1.all);clear hw';go_simp;try rfl))
    conv=>arg 9;simp only[Act.put,zq0,zq1,zq2]
   (refine Jf rfl rfl (fun w' hw'=>?_) ?_;· (have hb':=Has.world hw';go_simp;((refine(AD1.o w' hb').mono ?_;rintro e w'' ⟨a,c,rfl,ho,hb⟩;exact⟨_,rfl,⟨⟨a,c,rfl⟩,⟨a,c,rfl,ho.mono hb'.size⟩⟩,hb⟩))))
   rintro _ ⟨x,rfl⟩
   conv=>arg 9;simp only[Act.put,zq0,zq1,zq2]
   iterate 2
    (refine Jb rfl rfl ?_ (fun w' hw'=>?_) ?_;rotate_left;· (have hb':=Has.world hw';(obtain⟨x0,x1,x2,x3⟩:=(HS.o _ hb').1.2.all;obtain⟨x0,x1,x2,x3⟩:=(HS.o _ hb').2.2.all);clear hw';go_simp;try rfl))
    conv=>arg 9;simp only[Act.put,zq0,zq1,zq2]
   refine Jn (fun w8 hb8 hF=>?_);have HXQ:=qh (JW (T:=160) (b:=U.heap.size) (s:=decide (Q<0)) (L:=Ja Q.natAbs) (o:=dgi Q.natAbs) (x:=x) (hF 2));have A2:=qh (AD2.o w8 hb8);have HB8:=qh hb8;clear hF hb8 AD1 AD2;go_wp2_with fail
   refine A2.o.mono ?_;rintro e w9 ⟨y9,c9,rfl,hoy,hb9⟩;have HB9:=qh (HB8.o.trans (hb9.mono HB8.o.size));have HXQ9:=qh (HXQ.o.below hb9);have HOY:=qh hoy;have M:=HS2.o _ HB9.o;have HM:=qh M;clear hoy hb9 A2;obtain⟨b30,b31,b32,b33⟩:=M.1.all;obtain⟨b40,b41,b42,b43⟩:=M.2.all;clear M;go_wp2_with fail
   have s1':=HB8.o.size;have s2':=HBU.o.size;have s3':=GB.o.size;have s4':=HWS.o;have k3:=((HM.o.1.set (.bool (decide (Q<0))) (.slice x.1 (Ja Q.natAbs) x.2)).other (a:=⟨w.heap.size+1+1+1,0,none⟩) (by dsimp only;omega) (.bool (decide (R<0)))).other (a:=⟨w.heap.size+1+1+1,1,none⟩) (by dsimp only;omega) (.slice y9 (Ja R.natAbs) c9);have k4:=((HM.o.2.other (a:=⟨w.heap.size+1+1,0,none⟩) (by dsimp only;omega) (.bool (decide (Q<0)))).other (a:=⟨w.heap.size+1+1,1,none⟩) (by dsimp only;omega) (.slice x.1 (Ja Q.natAbs) x.2)).set (.bool (decide (R<0))) (.slice y9 (Ja R.natAbs) c9);refine bodyPost_ret (Xz rfl _ _ _ _ _ _ _ _ _ _ _ rfl k3 rfl k4 Tryz.underlying26 rfl (by kernel_rfl) (by kernel_rfl)) rfl ?_;unfold DivF;rw[<- HQR.o.1,<- HQR.o.2];refine⟨x.1,x.2,y9,c9,rfl,?_,?_,?_⟩
   ·exact((((HXQ9.o.oz).oz).oz).oz).mono (by omega)
   ·exact((((HOY.o.oz).oz).oz).oz).mono (by omega)
   ·have h:=(HGV.o.trans (HBU.o.mono HGV.o.size)).trans (HB9.o.mono (zm HGV.o.size HBU.o.size));exact(((h.sc).sc).sc).sc
 ·have esr:sr=false:=HSQ.o.1.2.trans (zo hng);have DP:=qh (VT HZ.o hng);subst esr;clear hng
  go_upto_region 9 with (fail)
  go_region;go_wp2_with fail
  have hws:=HWS.o;have hw2:=HW2.o;have hbw:=HBW.o
  have e1:(z1/z2).natAbs=z1.natAbs/z2.natAbs:=by rw[DP.o.1,U8]
  have e2:(z1%z2).natAbs=z1.natAbs%z2.natAbs:=by rw[DP.o.2,U9]
  have k3:=((HK.o.2.2.1.set (.bool sq) (.slice o1 Lq d1)).other (a:=⟨w.heap.size+1+1+1,0,none⟩) (by dsimp only;omega) (.bool false)).other (a:=⟨w.heap.size+1+1+1,1,none⟩) (by dsimp only;omega) (.slice o2 Lr d2);have k4:=((HK.o.2.2.2.other (a:=⟨w.heap.size+1+1,0,none⟩) (by dsimp only;omega) (.bool sq)).other (a:=⟨w.heap.size+1+1,1,none⟩) (by dsimp only;omega) (.slice o1 Lq d1)).set (.bool false) (.slice o2 Lr d2);refine bodyPost_ret (Xz rfl _ _ _ _ _ _ _ _ _ _ _ rfl k3 rfl k4 Tryz.underlying26 rfl (by kernel_rfl) (by kernel_rfl)) rfl ⟨o1,d1,o2,d2,?_,?_,?_,?_⟩
  ·rw[e1,e2,<- HSQ.o.2.1,<- HSQ.o.2.2,DP.o.1,DP.o.2,<- HSQ.o.1.1,<- HSQ.o.1.2];rfl
  ·rw[e1];exact((((((HQ.o.numr.oz).oz).oz).oz)).below zk.drew).mono (by omega)
  ·rw[e2];exact((((((HRM.o.numr.oz).oz).oz).oz)).below zk.drew).mono (by omega)
  ·exact((((HGV.o.sc).sc).sc).sc).drew
end Limb
end Go.Proofs.YtgkkbkoiaccmfaaGreatDoor
