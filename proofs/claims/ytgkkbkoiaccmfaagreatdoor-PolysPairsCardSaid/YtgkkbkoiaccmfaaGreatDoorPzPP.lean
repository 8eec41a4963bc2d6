/-
  A row of sums that a reference has made.
-/
import Derived.Test.YtgkkbkoiaccmfaaGreatDoorPzPO
set_option linter.unusedSimpArgs false
set_option linter.unusedVariables false
set_option maxHeartbeats 16000000
set_option maxRecDepth 100000
namespace Go.Proofs.YtgkkbkoiaccmfaaGreatDoor
namespace Pol
open Go.RowKit Go.Sort Limb
theorem jhf {w w':World} {b:Nat} {T:TypeId} {l:List Value} {row:TypeId->Bool} (h:Bxs w b T l) (hs:∀ (b:Nat) (c:Array Value) (T:TypeId),w.heap[b]?=some (.cells c T (0,0))->row T=true->w'.heap[b]?=w.heap[b]?) (ht:row T=true):Bxs w' b T l:=(hs b _ T h ht).trans h
def lenV:Value->Nat
 | .slice _ n _=>n
 | _=>0
theorem KP.cons {w:World} {a:Option Addr} {n c:Nat} {P:List Tm} (h:KP w ⟨a,n,c⟩ P) (hn:0<n):∃ (t:TV) (q:Rat) (b o:Nat) (P2:List Tm),a=some ⟨b,o,none⟩/\P=(t.m,q) :: P2/\RE w b o 0 t/\KF w t.c q/\KP w ⟨if c=1 then some ⟨b,o,none⟩ else some ⟨b,o+8,none⟩,n-1,c-1⟩ P2:=by
 obtain⟨L,h1,h2,h3,h4⟩:=h.ex;have h2:L.length=n:=h2
 match L,h1,h2,h3,h4 with
 | [],_,h2,_,_=>simp at h2;omega
 | e :: r,h1,h2,h3,h4 =>
  obtain⟨b,o,ha,hc⟩:=(show RT w a ((e :: r).map Prod.fst) from h1).ex (by simp);have hle:n<=c:=h.le;have hcn:Canon P:=h.canon;have hsm:=h.small;rw[<- h4] at hcn hsm;have hlen:(e :: r).length=n:=h2;rw[List.length_cons] at hlen;refine⟨e.1,e.2,b,o,r.map tm,ha,h4.symm,⟨block_lt_of_cell (hc 0 e.1 rfl 0 _ rfl),fun j v hj=>hc 0 e.1 rfl j v hj⟩,h3 e (List.mem_cons_self ..),⟨r,⟨fun hn0=>⟨b,o+8,?_,fun i t hi j v hj=>?_⟩⟩,?_,fun f hf=>h3 f (List.mem_cons_of_mem _ hf),rfl⟩,?_,hcn.tail,fun t ht=>hsm t (List.mem_cons_of_mem _ ht)⟩
  ·refine if_neg fun hc1=>hn0 ?_
   have:r.length=0:=by omega
   rw[List.length_eq_zero_iff.1 this];rfl
  ·have h5:=hc (i+1) t (by simpa using hi) j v hj;rw[show o+(i+1)*8+j=o+8+i*8+j by omega] at h5;exact h5
  ·show r.length=n-1;omega
  ·show n-1<=c-1;omega
theorem jhg {P Q:List Tm} (h1:∀ t∈P,t.1.Small) (h2:∀ t∈Q,t.1.Small):∀ t∈Qf P Q,t.1.Small:=fun t ht=>by
 rcases K7 ht with ⟨v,hv,e⟩ | ⟨v,hv,e⟩
 ·rw[<- e];exact h1 v hv
 ·rw[<- e];exact h2 v hv
theorem key_lt0 {a b:Mo} (ha:a.Small) (hb:b.Small) (h:a.lt b):Mono.Ju (Zm 0 a) (Zm 0 b) = -1:=Mono.JI ((VB ha hb).1 h)
theorem key_gt0 {a b:Mo} (ha:a.Small) (hb:b.Small) (h:b.lt a):Mono.Ju (Zm 0 a) (Zm 0 b)=1:=Mono.JL ((VB hb ha).1 h)
theorem Xn (x y:PV) (P Q:List Tm) (w:World) (hx:AP w x P) (hy:AP w y Q) (hp:∀ t∈P,LQ t.2 400000) (hq:∀ t∈Q,LQ t.2 400000) (hxn:x.n<=400000000) (hyn:y.n<=400000000) :
  Calls Tryz.prog 57 #[x.v,y.v] w fun e w'=>∃ z:PV,e=.returned z.v/\EP w' w.heap.size z (Qf P Q)/\Below w.heap.size w w':=by
 obtain⟨⟨x1,n1,c1⟩,hxz,hxm,hcx⟩:=jeh hx (fun t ht=>(hp t ht).up (by omega)) (by omega);obtain⟨⟨y1,n2,c2⟩,hyz,hym,hcy⟩:=jeh hy (fun t ht=>(hq t ht).up (by omega)) (by omega);obtain⟨xa,xn,xc⟩:=x;obtain⟨ya,yn,yc⟩:=y;have CX:=qh (hcx w zk);have HCY:=qh hcy;have HX:=qh hxz;have HY:=qh hyz;have HLP:=qh hp;have HLQ:=qh hq;have HSP:=qh (show ∀ t∈P,t.1.Small from hxz.small);have HSQ:=qh (show ∀ t∈Q,t.1.Small from hyz.small);have HN1:=qh (show n1<=400000000 from zm hxm hxn);have HN2:=qh (show n2<=400000000 from zm hym hyn);obtain⟨nn,hnn⟩:∃ n,n=n1+n2:=⟨_,rfl⟩;have HNE:=qh hnn;have HNN:=qh (show nn<=800000000 by have:=HN1.o;have:=HN2.o;omega);clear hx hy hp hq hxn hyn hxz hyz hxm hym hcx hcy hnn;change Calls Tryz.prog 57 #[.slice xa xn xc,.slice ya yn yc] w _;go_enter Tryz.func57,Tryz.ntmps57;go_wp2_with fail
 with_reducible refine CX.o.mono ?_
 rintro e w1 ⟨he,hb⟩;obtain rfl:e=.returned (.slice x1 n1 c1):=he;have CY:=qh (HCY.o w1 hb);have KG:=qh hb;clear hb CX HCY;go_wp2_with fail
 with_reducible refine CY.o.mono ?_
 rintro e V ⟨he,hb⟩;obtain rfl:e=.returned (.slice y1 n2 c2):=he;have KG:=qk KG hb;have HLW:=qh KG.o.size;clear hb CY;go_wp2_with fail
 go_loopw [0,1,5] (fun p q o wr=>∃ (P' Q':List Tm) (x y z:PV) (L:List TE),p=x.v/\q=y.v/\o=z.v/\KP w x P'/\KP w y Q'/\(∀ t∈P',t∈P)/\(∀ t∈Q',t∈Q)/\ER wr V.heap.size z.v L/\L.map tm++Qf P' Q'=Qf P Q/\L.length+x.n+y.n<=nn/\Below V.heap.size V wr) (fun p q _ _=>lenV p+lenV q)
 case atStart=>exact⟨P,Q,⟨x1,n1,c1⟩,⟨y1,n2,c2⟩,⟨none,0,0⟩,[],rfl,rfl,rfl,HX.o,HY.o,fun _ h=>h,fun _ h=>h,ER.nil,rfl,by have:=HNE.o;show 0+n1+n2<=nn;omega,zk⟩
 case round =>
  obtain⟨P',Q',⟨xa,xn,xc⟩,⟨ya,yn,yc⟩,⟨oa,on,oc⟩,L,hpv,hqv,ho,hkp,hkq,hmp,hmq,her,hall,hol,hb0⟩:=hrel;obtain rfl:_=Value.slice xa xn xc:=hpv;obtain rfl:_=Value.slice ya yn yc:=hqv;obtain rfl:_=Value.slice oa on oc:=ho;have HKP:=qh hkp;have HKQ:=qh hkq;have HMP:=qh hmp;have HMQ:=qh hmq;have ERR:=qh her;have HALL:=qh hall;have HOL:=qh (show L.length+xn+yn<=nn from hol);have KW:=qh (show Bt V wr from⟨hb0⟩);have KG:=qk KG hb0;have HXL:=qh (show xn=P'.length from hkp.len);have HYL:=qh (show yn=Q'.length from hkq.len);clear hkp hkq hmp hmq her hall hol hb0;by_cases hx0:xn=0
  ·have HX0:=qh (show P'=[] from List.length_eq_zero_iff.1 (by rw[<- HXL.o];exact hx0))
   have hx1:¬((xn:Int)>0):=by omega
   have hx2:¬((0:Int)<(xn:Int)):=hx1
   have hx3:(xn:Int)=0:=by omega
   by_cases hy0:yn=0
   ·have hy1:¬((yn:Int)>0):=by omega
    have hy2:¬((0:Int)<(yn:Int)):=hy1;have HY0:=qh (show Q'=[] from List.length_eq_zero_iff.1 (by rw[<- HYL.o];exact hy0));clear hx0 hy0;go_wp2_with fail
    go_ret;refine⟨⟨oa,on,oc⟩,rfl,⟨⟨L,ERR.o.mono HLW.o,?_⟩,JN _ _,jhg HSP.o HSQ.o⟩,KG.o⟩;have h:=HALL.o;rw[HX0.o,HY0.o,U0 Canon.nil,List.append_nil] at h;exact h
   ·have HYP:=qh (Nat.pos_of_ne_zero hy0);obtain⟨u,r,qb,qo,Q2,rfl,hqe,hre,hnf,hq2⟩:=HKQ.o.cons HYP.o
    have hy1:(yn:Int)>0:=by have:=HYP.o;omega
    have hy2:(0:Int)<(yn:Int):=hy1
    have hy3:(1:Int)<=(yn:Int):=by have:=HYP.o;omega
    have hy4:(yn:Int)<=(yc:Int):=by have h:yn<=yc:=HKQ.o.le;omega
    have hy5:1<=yn:=HYP.o;have hy6:yn<=yc:=HKQ.o.le;have hy8:0<yn:=HYP.o;have HQE:=qh hqe;have HRF:=qh hre;have HQ2:=qh hq2;have E2:=qh (hre.below KG.o);have NG:=qh (hnf.below KG.o);have HMU:=qh (show(u.m,r)∈Q from HMQ.o _ (by rw[hqe];exact List.mem_cons_self ..));have HLU4:=qh (show LQ r 400000 from HLQ.o _ HMU.o);have HLU:=qh (show LQ r 900000 from HLU4.o.up (by omega));have HLG:=qh (show LF u.c 900000 from hnf.len HLU.o zj);have HNF:=qh hnf;have HMG:=qh (show Qf P' Q'=(u.m,r) :: Qf P' Q2 by rw[HX0.o,HQE.o];exact merge_lt (HQE.o▸HKQ.o.canon) fun _ h=>(by cases h));clear hx0 hy0 hqe hre hnf hq2
    go_upto_region 21 with (fail)
    have HLO:=qh KW.o.b.size
    go_upto_region 21 with (fail)
    refine FS.Jb 12 [] (FS.JH [(5,FS.Sp.made (fun x:FV=>x.v) (fun x w'=>EF w' wr.heap.size x r) FV.blk),(11,FS.Sp.made (fun b:Nat=>Value.slice (some ⟨b,0,none⟩) 1 1) (fun b w'=>ZI w' wr.heap.size b u.m r) (fun _ _=>False))])
     (fun w'=>Below wr.heap.size wr w') (by kernel_rfl) (by kernel_rfl) (by kernel_rfl)
     (FS.Jd (FS.Sp.Jg _ (fun _ _ _ h _ hk=>h.kept hk) (FS.JM (by kernel_rfl))) (FS.Jd (FS.Sp.Qd _ V7 (fun _ _ _ h hs=>h.rows hs) (by kernel_rfl) (FS.JM (by kernel_rfl))) (FS.Jk))) (fun _ _ h hb=>h.trans (hb.mono h.size)) (zk.drew) ?_
    simp only[zu,zi,ze,zx,zy,zv,zw]
    iterate 5
     refine FS.Jc rfl rfl rfl ?_ (fun w' hw'=>?_) ?_;rotate_left
     ·have hb':=hw'.world;obtain⟨hs0,hs1,hs2,hs3,hs4,hs5,hs6,hs7⟩:=(E2.o.below hb').eight;simp only[Nat.zero_mul,Nat.add_zero] at hs0 hs1 hs2 hs3 hs4 hs5 hs6 hs7;clear hw';go_simp
      try rfl
     conv=>arg 10;simp only[Act.put,zq0,zq1,zq2]
    refine FS.Je rfl rfl rfl (fun w' hw'=>?_) ?_
    ·have hb':=hw'.world;refine FS.Jn (FS.PM (fun x:FV=>x.v) (fun x w'=>EF w' wr.heap.size x r) FV.blk w'.heap.size) ?_ (fun _ _ h=>h.post (fun _ _=>FV.inj));go_simp;have CT:=(show Calls Tryz.prog 78 #[.agg #[.bool u.c.t.s,.slice u.c.t.a u.c.t.n u.c.t.c,.bool u.c.l.s,.slice u.c.l.a u.c.l.n u.c.l.c]] w' _ from jbb (c:=u.c) (NG.o.below hb').any HLG.o HLU.o);refine CT.mono ?_;rintro e w'' ⟨za,rfl,ho,hb⟩;exact⟨_,rfl,⟨za,rfl,ho.mono hb'.size,ho.Q7⟩,hb⟩
    rintro _ ⟨y5,rfl⟩
    conv=>arg 10;simp only[Act.put,zq0,zq1,zq2]
    iterate 5
     refine FS.Jc rfl rfl rfl ?_ (fun w' hw'=>?_) ?_;rotate_left
     ·have hb':=hw'.world;obtain⟨hs0,hs1,hs2,hs3,hs4,hs5,hs6,hs7⟩:=(E2.o.below hb').eight;simp only[Nat.zero_mul,Nat.add_zero] at hs0 hs1 hs2 hs3 hs4 hs5 hs6 hs7;clear hw';go_simp
      try rfl
     conv=>arg 10;simp only[Act.put,zq0,zq1,zq2]
    refine FS.Je rfl rfl rfl (fun w' hw'=>?_) ?_
    ·have hb':=hw'.world;refine FS.Jn (FS.PM (fun b:Nat=>Value.slice (some ⟨b,0,none⟩) 1 1) (fun b w'=>ZI w' wr.heap.size b u.m r) (fun _ _=>False) w'.heap.size) ?_ (fun _ _ h=>h.post (fun _ _ h=>by cases h;rfl));go_simp;have f5:=FS.JX (val:=(fun x:FV=>x.v)) (Φ:=fun x w'=>EF w' wr.heap.size x r) (fun _ _=>FV.inj) (hw'.jaz 10 5 (by kernel_rfl) (by kernel_rfl));exact⟨⟨w'.heap.size,rfl,⟨⟨y5,Bxs.new w' _ (TV.cells ⟨y5,u.m⟩),f5.alloc _⟩⟩,fun _ h=>False.elim h⟩,zk.alloc zj _⟩
    rintro _ ⟨y11,rfl⟩
    conv=>arg 10;simp only[Act.put,zq0,zq1,zq2]
    refine FS.Jm (fun w701 hb hF=>?_);obtain⟨⟨yy704,hB,hE⟩⟩:=FS.JX (val:=(fun b:Nat=>Value.slice (some ⟨b,0,none⟩) 1 1)) (Φ:=fun b w'=>ZI w' wr.heap.size b u.m r) (fun _ _ h=>by cases h;rfl) (hF.all 11);have NB702:=qh hB;have NE703:=qh hE;clear hB hE;clear hF;have NG:=qh (NG.o.below hb);have ERR:=qh (ERR.o.below hb);have KW:=qh (KW.o.below hb);have KG:=qk KG hb;clear hb;go_wp2_with (first | (at_builtin;refine Ql (t:=⟨yy704,u.m⟩) rfl _ _ rfl rfl ERR.o (by have:=HOL.o;have:=HNN.o;omega) KW.o.b.size rfl NB702.o (NE703.o.mono HLO.o) rfl ?_))
    intro z9 w9 her9 hb9;obtain⟨za9,zn9,zc9⟩:=z9;have ER9:=qh her9;have HB9:=qh hb9;clear her9 hb9;go_wp2_with fail
    go_roundw
    case rel =>
     refine⟨P',Q2,⟨xa,xn,xc⟩,⟨if yc=1 then some ⟨qb,qo,none⟩ else some ⟨qb,qo+8,none⟩,yn-1,yc-1⟩,⟨za9,zn9,zc9⟩,L++[(⟨yy704,u.m⟩,r)],rfl,rfl,rfl,HKP.o,HQ2.o,HMP.o,fun v hv=>HMQ.o v (by rw[HQE.o];exact List.mem_cons_of_mem _ hv),ER9.o,?_,?_,KW.o.b.trans HB9.o⟩
     ·rw[List.map_append,List.append_assoc,<- HALL.o];refine congrArg _ ?_;rw[HMG.o];rfl
     ·rw[List.length_append,List.length_singleton];have:=HOL.o;have:=HYP.o;show L.length+1+xn+(yn-1)<=nn;omega
    case measure=>simp[lenV];have:=HYP.o;omega
  ·have HXP:=qh (Nat.pos_of_ne_zero hx0);obtain⟨t,q,pb,po,P2,rfl,hpe,hre,hnf,hp2⟩:=HKP.o.cons HXP.o
   have hx1:(xn:Int)>0:=by have:=HXP.o;omega
   have hx2:(0:Int)<(xn:Int):=hx1
   have hx3:¬((xn:Int)=0):=by omega
   have hx4:(1:Int)<=(xn:Int):=by have:=HXP.o;omega
   have hx5:(xn:Int)<=(xc:Int):=by have h:xn<=xc:=HKP.o.le;omega
   have hx6:1<=xn:=HXP.o;have hx7:xn<=xc:=HKP.o.le;have hx8:0<xn:=HXP.o;have HPE:=qh hpe;have HRE:=qh hre;have HP2:=qh hp2;have E1:=qh (hre.below KG.o);have NF:=qh (hnf.below KG.o);have HMT:=qh (show(t.m,q)∈P from HMP.o _ (by rw[hpe];exact List.mem_cons_self ..));have HLT4:=qh (show LQ q 400000 from HLP.o _ HMT.o);have HLT:=qh (show LQ q 900000 from HLT4.o.up (by omega));have HLF:=qh (show LF t.c 900000 from hnf.len HLT.o zj);have HST:=qh (show t.m.Small from HSP.o _ HMT.o);have HNT:=qh hnf;clear hx0 hpe hre hnf hp2;by_cases hy0:yn=0
   ·have hy1:(yn:Int)=0:=by omega
    have HY0:=qh (show Q'=[] from List.length_eq_zero_iff.1 (by rw[<- HYL.o];exact hy0));have HMG:=qh (show Qf P' Q'=(t.m,q) :: Qf P2 Q' by rw[HY0.o,HPE.o];exact jcm (HPE.o▸HKP.o.canon) fun _ h=>(by cases h));clear hy0
    go_upto_region 18 with (fail)
    have HLO:=qh KW.o.b.size
    go_upto_region 18 with (fail)
    refine FS.Jb 12 [] (FS.JH [(5,FS.Sp.made (fun x:FV=>x.v) (fun x w'=>EF w' wr.heap.size x q) FV.blk),(11,FS.Sp.made (fun b:Nat=>Value.slice (some ⟨b,0,none⟩) 1 1) (fun b w'=>ZI w' wr.heap.size b t.m q) (fun _ _=>False))])
     (fun w'=>Below wr.heap.size wr w') (by kernel_rfl) (by kernel_rfl) (by kernel_rfl)
     (FS.Jd (FS.Sp.Jg _ (fun _ _ _ h _ hk=>h.kept hk) (FS.JM (by kernel_rfl))) (FS.Jd (FS.Sp.Qd _ V7 (fun _ _ _ h hs=>h.rows hs) (by kernel_rfl) (FS.JM (by kernel_rfl))) (FS.Jk))) (fun _ _ h hb=>h.trans (hb.mono h.size)) (zk.drew) ?_
    simp only[zu,zi,ze,zx,zy,zv,zw]
    iterate 5
     refine FS.Jc rfl rfl rfl ?_ (fun w' hw'=>?_) ?_;rotate_left
     ·have hb':=hw'.world;obtain⟨hs0,hs1,hs2,hs3,hs4,hs5,hs6,hs7⟩:=(E1.o.below hb').eight;simp only[Nat.zero_mul,Nat.add_zero] at hs0 hs1 hs2 hs3 hs4 hs5 hs6 hs7;clear hw';go_simp
      try rfl
     conv=>arg 10;simp only[Act.put,zq0,zq1,zq2]
    refine FS.Je rfl rfl rfl (fun w' hw'=>?_) ?_
    ·have hb':=hw'.world;refine FS.Jn (FS.PM (fun x:FV=>x.v) (fun x w'=>EF w' wr.heap.size x q) FV.blk w'.heap.size) ?_ (fun _ _ h=>h.post (fun _ _=>FV.inj));go_simp;have CT:=(show Calls Tryz.prog 78 #[.agg #[.bool t.c.t.s,.slice t.c.t.a t.c.t.n t.c.t.c,.bool t.c.l.s,.slice t.c.l.a t.c.l.n t.c.l.c]] w' _ from jbb (c:=t.c) (NF.o.below hb').any HLF.o HLT.o);refine CT.mono ?_;rintro e w'' ⟨za,rfl,ho,hb⟩;exact⟨_,rfl,⟨za,rfl,ho.mono hb'.size,ho.Q7⟩,hb⟩
    rintro _ ⟨y5,rfl⟩
    conv=>arg 10;simp only[Act.put,zq0,zq1,zq2]
    iterate 5
     refine FS.Jc rfl rfl rfl ?_ (fun w' hw'=>?_) ?_;rotate_left
     ·have hb':=hw'.world;obtain⟨hs0,hs1,hs2,hs3,hs4,hs5,hs6,hs7⟩:=(E1.o.below hb').eight;simp only[Nat.zero_mul,Nat.add_zero] at hs0 hs1 hs2 hs3 hs4 hs5 hs6 hs7;clear hw';go_simp
      try rfl
     conv=>arg 10;simp only[Act.put,zq0,zq1,zq2]
    refine FS.Je rfl rfl rfl (fun w' hw'=>?_) ?_
    ·have hb':=hw'.world;refine FS.Jn (FS.PM (fun b:Nat=>Value.slice (some ⟨b,0,none⟩) 1 1) (fun b w'=>ZI w' wr.heap.size b t.m q) (fun _ _=>False) w'.heap.size) ?_ (fun _ _ h=>h.post (fun _ _ h=>by cases h;rfl));go_simp;have f5:=FS.JX (val:=(fun x:FV=>x.v)) (Φ:=fun x w'=>EF w' wr.heap.size x q) (fun _ _=>FV.inj) (hw'.jaz 10 5 (by kernel_rfl) (by kernel_rfl));exact⟨⟨w'.heap.size,rfl,⟨⟨y5,Bxs.new w' _ (TV.cells ⟨y5,t.m⟩),f5.alloc _⟩⟩,fun _ h=>False.elim h⟩,zk.alloc zj _⟩
    rintro _ ⟨y11,rfl⟩
    conv=>arg 10;simp only[Act.put,zq0,zq1,zq2]
    refine FS.Jm (fun w801 hb hF=>?_);obtain⟨⟨yy804,hB,hE⟩⟩:=FS.JX (val:=(fun b:Nat=>Value.slice (some ⟨b,0,none⟩) 1 1)) (Φ:=fun b w'=>ZI w' wr.heap.size b t.m q) (fun _ _ h=>by cases h;rfl) (hF.all 11);have NB802:=qh hB;have NE803:=qh hE;clear hB hE;clear hF;have NF:=qh (NF.o.below hb);have ERR:=qh (ERR.o.below hb);have KW:=qh (KW.o.below hb);have KG:=qk KG hb;clear hb;go_wp2_with (first | (at_builtin;refine Ql (t:=⟨yy804,t.m⟩) rfl _ _ rfl rfl ERR.o (by have:=HOL.o;have:=HNN.o;omega) KW.o.b.size rfl NB802.o (NE803.o.mono HLO.o) rfl ?_))
    intro z9 w9 her9 hb9;obtain⟨za9,zn9,zc9⟩:=z9;have ER9:=qh her9;have HB9:=qh hb9;clear her9 hb9;go_wp2_with fail
    go_roundw
    case rel =>
     refine⟨P2,Q',⟨if xc=1 then some ⟨pb,po,none⟩ else some ⟨pb,po+8,none⟩,xn-1,xc-1⟩,⟨ya,yn,yc⟩,⟨za9,zn9,zc9⟩,L++[(⟨yy804,t.m⟩,q)],rfl,rfl,rfl,HP2.o,HKQ.o,fun v hv=>HMP.o v (by rw[HPE.o];exact List.mem_cons_of_mem _ hv),HMQ.o,ER9.o,?_,?_,KW.o.b.trans HB9.o⟩
     ·rw[List.map_append,List.append_assoc,<- HALL.o];refine congrArg _ ?_;rw[HMG.o];rfl
     ·rw[List.length_append,List.length_singleton];have:=HOL.o;have:=HXP.o;show L.length+1+(xn-1)+yn<=nn;omega
    case measure=>simp[lenV];have:=HXP.o;omega
   ·have HYP:=qh (Nat.pos_of_ne_zero hy0);obtain⟨u,r,qb,qo,Q2,rfl,hqe,hre,hnf,hq2⟩:=HKQ.o.cons HYP.o
    have hy1:¬((yn:Int)=0):=by have:=HYP.o;omega
    have hy3:(1:Int)<=(yn:Int):=by have:=HYP.o;omega
    have hy4:(yn:Int)<=(yc:Int):=by have h:yn<=yc:=HKQ.o.le;omega
    have hy5:1<=yn:=HYP.o;have hy6:yn<=yc:=HKQ.o.le;have hy8:0<yn:=HYP.o;have HQE:=qh hqe;have HRF:=qh hre;have HQ2:=qh hq2;have E2:=qh (hre.below KG.o);have NG:=qh (hnf.below KG.o);have HMU:=qh (show(u.m,r)∈Q from HMQ.o _ (by rw[hqe];exact List.mem_cons_self ..));have HLU4:=qh (show LQ r 400000 from HLQ.o _ HMU.o);have HLU:=qh (show LQ r 900000 from HLU4.o.up (by omega));have HLG:=qh (show LF u.c 900000 from hnf.len HLU.o zj);have HNF:=qh hnf;have HSU:=qh (show u.m.Small from HSQ.o _ HMU.o);clear hy0 hqe hre hnf hq2
    rcases Mo.ja3 t.m u.m with hc | hc | hc
    ·have HC:=qh (key_lt0 HST.o HSU.o hc);have HMG:=qh (show Qf P' Q'=(u.m,r) :: Qf P' Q2 by rw[HQE.o,HPE.o];exact merge_lt (HQE.o▸HKQ.o.canon) (jfe (HPE.o▸HKP.o.canon) hc));clear hc
     go_upto_region 10 with (fail)
     go_upto_region 10 with (fail)
     refine FS.Jb 9 [] (FS.JH [(8,FS.Sp.know (.int .i64 (-1)))])
      (fun w'=>Below wr.heap.size wr w') (by kernel_rfl) (by kernel_rfl) (by kernel_rfl)
      (FS.Jd (FS.Sp.Jl _ _) (FS.Jk)) (fun _ _ h hb=>h.trans (hb.mono h.size)) (zk.drew) ?_
     simp only[zu,zi,ze,zx,zy,zv,zw]
     iterate 8
      refine FS.Jc rfl rfl rfl ?_ (fun w' hw'=>?_) ?_;rotate_left
      ·have hb':=hw'.world;obtain⟨hs0,hs1,hs2,hs3,hs4,hs5,hs6,hs7⟩:=(E1.o.below hb').eight;simp only[Nat.zero_mul,Nat.add_zero] at hs0 hs1 hs2 hs3 hs4 hs5 hs6 hs7;obtain⟨hs0,hs1,hs2,hs3,hs4,hs5,hs6,hs7⟩:=(E2.o.below hb').eight;simp only[Nat.zero_mul,Nat.add_zero] at hs0 hs1 hs2 hs3 hs4 hs5 hs6 hs7;clear hw';go_simp
       try rfl
      conv=>arg 10;simp only[Act.put,zq0,zq1,zq2]
     refine FS.Je rfl rfl rfl (fun w' hw'=>?_) ?_
     ·have hb':=hw'.world;refine FS.Jn (FS.PK (.int .i64 (-1))) ?_ (fun _ _ h=>h.post);go_simp;have CT:=(show Calls Tryz.prog 151 #[.int .u8 0,.agg #[.int .u16 t.m.x,.int .u16 t.m.y,.int .u16 t.m.z,.int .u16 t.m.t],.agg #[.int .u16 u.m.x,.int .u16 u.m.y,.int .u16 u.m.z,.int .u16 u.m.t]] w' _ from jd7 0 t.m u.m w' HST.o HSU.o);rw[show Mono.Ju (Zm 0 t.m) (Zm 0 u.m)=(-1) from HC.o] at CT;refine CT.mono ?_;rintro e w'' ⟨rfl,hb⟩;exact⟨_,rfl,rfl,hb⟩
     rintro _ rfl
     conv=>arg 10;simp only[Act.put,zq0,zq1,zq2]
     refine FS.Jm (fun w501 hb hF=>?_);clear hF;have ERR:=qh (ERR.o.below hb);have KW:=qh (KW.o.below hb);have KG:=qk KG hb;clear hb;have E1:=qh (HRE.o.below KG.o);have E2:=qh (HRF.o.below KG.o);have NF:=qh (HNT.o.below KG.o);have NG:=qh (HNF.o.below KG.o)
     go_upto_region 21 with (fail)
     have HLO:=qh KW.o.b.size
     go_upto_region 21 with (fail)
     refine FS.Jb 12 [] (FS.JH [(5,FS.Sp.made (fun x:FV=>x.v) (fun x w'=>EF w' w501.heap.size x r) FV.blk),(11,FS.Sp.made (fun b:Nat=>Value.slice (some ⟨b,0,none⟩) 1 1) (fun b w'=>ZI w' w501.heap.size b u.m r) (fun _ _=>False))])
      (fun w'=>Below w501.heap.size w501 w') (by kernel_rfl) (by kernel_rfl) (by kernel_rfl)
      (FS.Jd (FS.Sp.Jg _ (fun _ _ _ h _ hk=>h.kept hk) (FS.JM (by kernel_rfl))) (FS.Jd (FS.Sp.Qd _ V7 (fun _ _ _ h hs=>h.rows hs) (by kernel_rfl) (FS.JM (by kernel_rfl))) (FS.Jk))) (fun _ _ h hb=>h.trans (hb.mono h.size)) (zk.drew) ?_
     simp only[zu,zi,ze,zx,zy,zv,zw]
     iterate 5
      refine FS.Jc rfl rfl rfl ?_ (fun w' hw'=>?_) ?_;rotate_left
      ·have hb':=hw'.world;obtain⟨hs0,hs1,hs2,hs3,hs4,hs5,hs6,hs7⟩:=(E2.o.below hb').eight;simp only[Nat.zero_mul,Nat.add_zero] at hs0 hs1 hs2 hs3 hs4 hs5 hs6 hs7;clear hw';go_simp
       try rfl
      conv=>arg 10;simp only[Act.put,zq0,zq1,zq2]
     refine FS.Je rfl rfl rfl (fun w' hw'=>?_) ?_
     ·have hb':=hw'.world;refine FS.Jn (FS.PM (fun x:FV=>x.v) (fun x w'=>EF w' w501.heap.size x r) FV.blk w'.heap.size) ?_ (fun _ _ h=>h.post (fun _ _=>FV.inj));go_simp;have CT:=(show Calls Tryz.prog 78 #[.agg #[.bool u.c.t.s,.slice u.c.t.a u.c.t.n u.c.t.c,.bool u.c.l.s,.slice u.c.l.a u.c.l.n u.c.l.c]] w' _ from jbb (c:=u.c) (NG.o.below hb').any HLG.o HLU.o);refine CT.mono ?_;rintro e w'' ⟨za,rfl,ho,hb⟩;exact⟨_,rfl,⟨za,rfl,ho.mono hb'.size,ho.Q7⟩,hb⟩
     rintro _ ⟨y5,rfl⟩
     conv=>arg 10;simp only[Act.put,zq0,zq1,zq2]
     iterate 5
      refine FS.Jc rfl rfl rfl ?_ (fun w' hw'=>?_) ?_;rotate_left
      ·have hb':=hw'.world;obtain⟨hs0,hs1,hs2,hs3,hs4,hs5,hs6,hs7⟩:=(E2.o.below hb').eight;simp only[Nat.zero_mul,Nat.add_zero] at hs0 hs1 hs2 hs3 hs4 hs5 hs6 hs7;clear hw';go_simp
       try rfl
      conv=>arg 10;simp only[Act.put,zq0,zq1,zq2]
     refine FS.Je rfl rfl rfl (fun w' hw'=>?_) ?_
     ·have hb':=hw'.world;refine FS.Jn (FS.PM (fun b:Nat=>Value.slice (some ⟨b,0,none⟩) 1 1) (fun b w'=>ZI w' w501.heap.size b u.m r) (fun _ _=>False) w'.heap.size) ?_ (fun _ _ h=>h.post (fun _ _ h=>by cases h;rfl));go_simp;have f5:=FS.JX (val:=(fun x:FV=>x.v)) (Φ:=fun x w'=>EF w' w501.heap.size x r) (fun _ _=>FV.inj) (hw'.jaz 10 5 (by kernel_rfl) (by kernel_rfl));exact⟨⟨w'.heap.size,rfl,⟨⟨y5,Bxs.new w' _ (TV.cells ⟨y5,u.m⟩),f5.alloc _⟩⟩,fun _ h=>False.elim h⟩,zk.alloc zj _⟩
     rintro _ ⟨y11,rfl⟩
     conv=>arg 10;simp only[Act.put,zq0,zq1,zq2]
     refine FS.Jm (fun w901 hb hF=>?_);obtain⟨⟨yy904,hB,hE⟩⟩:=FS.JX (val:=(fun b:Nat=>Value.slice (some ⟨b,0,none⟩) 1 1)) (Φ:=fun b w'=>ZI w' w501.heap.size b u.m r) (fun _ _ h=>by cases h;rfl) (hF.all 11);have NB902:=qh hB;have NE903:=qh hE;clear hB hE;clear hF;have NG:=qh (NG.o.below hb);have ERR:=qh (ERR.o.below hb);have KW:=qh (KW.o.below hb);have KG:=qk KG hb;clear hb;go_wp2_with (first | (at_builtin;refine Ql (t:=⟨yy904,u.m⟩) rfl _ _ rfl rfl ERR.o (by have:=HOL.o;have:=HNN.o;omega) KW.o.b.size rfl NB902.o (NE903.o.mono HLO.o) rfl ?_))
     intro z9 w9 her9 hb9;obtain⟨za9,zn9,zc9⟩:=z9;have ER9:=qh her9;have HB9:=qh hb9;clear her9 hb9;go_wp2_with fail
     go_roundw
     case rel =>
      refine⟨P',Q2,⟨some ⟨pb,po,none⟩,xn,xc⟩,⟨if yc=1 then some ⟨qb,qo,none⟩ else some ⟨qb,qo+8,none⟩,yn-1,yc-1⟩,⟨za9,zn9,zc9⟩,L++[(⟨yy904,u.m⟩,r)],rfl,rfl,rfl,HKP.o,HQ2.o,HMP.o,fun v hv=>HMQ.o v (by rw[HQE.o];exact List.mem_cons_of_mem _ hv),ER9.o,?_,?_,KW.o.b.trans HB9.o⟩
      ·rw[List.map_append,List.append_assoc,<- HALL.o];refine congrArg _ ?_;rw[HMG.o];rfl
      ·rw[List.length_append,List.length_singleton];have:=HOL.o;have:=HYP.o;show L.length+1+xn+(yn-1)<=nn;omega
     case measure=>simp[lenV];have:=HYP.o;omega
    ·have HC:=qh (show Mono.Ju (Zm 0 t.m) (Zm 0 u.m)=0 by rw[hc];exact Mono.JW rfl);have HC3:=qh hc;clear hc
     go_upto_region 10 with (fail)
     go_upto_region 10 with (fail)
     refine FS.Jb 9 [] (FS.JH [(8,FS.Sp.know (.int .i64 0))])
      (fun w'=>Below wr.heap.size wr w') (by kernel_rfl) (by kernel_rfl) (by kernel_rfl)
      (FS.Jd (FS.Sp.Jl _ _) (FS.Jk)) (fun _ _ h hb=>h.trans (hb.mono h.size)) (zk.drew) ?_
     simp only[zu,zi,ze,zx,zy,zv,zw]
     iterate 8
      refine FS.Jc rfl rfl rfl ?_ (fun w' hw'=>?_) ?_;rotate_left
      ·have hb':=hw'.world;obtain⟨hs0,hs1,hs2,hs3,hs4,hs5,hs6,hs7⟩:=(E1.o.below hb').eight;simp only[Nat.zero_mul,Nat.add_zero] at hs0 hs1 hs2 hs3 hs4 hs5 hs6 hs7;obtain⟨hs0,hs1,hs2,hs3,hs4,hs5,hs6,hs7⟩:=(E2.o.below hb').eight;simp only[Nat.zero_mul,Nat.add_zero] at hs0 hs1 hs2 hs3 hs4 hs5 hs6 hs7;clear hw';go_simp
       try rfl
      conv=>arg 10;simp only[Act.put,zq0,zq1,zq2]
     refine FS.Je rfl rfl rfl (fun w' hw'=>?_) ?_
     ·have hb':=hw'.world;refine FS.Jn (FS.PK (.int .i64 0)) ?_ (fun _ _ h=>h.post);go_simp;have CT:=(show Calls Tryz.prog 151 #[.int .u8 0,.agg #[.int .u16 t.m.x,.int .u16 t.m.y,.int .u16 t.m.z,.int .u16 t.m.t],.agg #[.int .u16 u.m.x,.int .u16 u.m.y,.int .u16 u.m.z,.int .u16 u.m.t]] w' _ from jd7 0 t.m u.m w' HST.o HSU.o);rw[show Mono.Ju (Zm 0 t.m) (Zm 0 u.m)=0 from HC.o] at CT;refine CT.mono ?_;rintro e w'' ⟨rfl,hb⟩;exact⟨_,rfl,rfl,hb⟩
     rintro _ rfl
     conv=>arg 10;simp only[Act.put,zq0,zq1,zq2]
     refine FS.Jm (fun w601 hb hF=>?_);clear hF;have ERR:=qh (ERR.o.below hb);have KW:=qh (KW.o.below hb);have KG:=qk KG hb;clear hb;have E1:=qh (HRE.o.below KG.o);have E2:=qh (HRF.o.below KG.o);have NF:=qh (HNT.o.below KG.o);have NG:=qh (HNF.o.below KG.o)
     go_upto_region 12 with (fail)
     have HLO:=qh KW.o.b.size
     go_upto_region 12 with (fail)
     refine FS.Jb 10 [] (FS.JH [(8,FS.Sp.made (fun x:FV=>x.v) (fun x w'=>EF w' w601.heap.size x (q+r)) FV.blk),(9,FS.Sp.box 28 4 w601.heap.size)])
      (fun w'=>Below w601.heap.size w601 w') (by kernel_rfl) (by kernel_rfl) (by kernel_rfl)
      (FS.Jd (FS.Sp.Jg _ (fun _ _ _ h _ hk=>h.kept hk) (FS.JM (by kernel_rfl))) (FS.Jd (FS.Sp.Yc _ _ _ _) (FS.Jk))) (fun _ _ h hb=>h.trans (hb.mono h.size)) (zk.drew) ?_
     simp only[zu,zi,ze,zx,zy,zv,zw]
     iterate 8
      refine FS.Jc rfl rfl rfl ?_ (fun w' hw'=>?_) ?_;rotate_left
      ·have hb':=hw'.world;obtain⟨hs0,hs1,hs2,hs3,hs4,hs5,hs6,hs7⟩:=(E1.o.below hb').eight;simp only[Nat.zero_mul,Nat.add_zero] at hs0 hs1 hs2 hs3 hs4 hs5 hs6 hs7;obtain⟨hs0,hs1,hs2,hs3,hs4,hs5,hs6,hs7⟩:=(E2.o.below hb').eight;simp only[Nat.zero_mul,Nat.add_zero] at hs0 hs1 hs2 hs3 hs4 hs5 hs6 hs7;clear hw';go_simp
       try rfl
      conv=>arg 10;simp only[Act.put,zq0,zq1,zq2]
     refine FS.Je rfl rfl rfl (fun w' hw'=>?_) ?_
     ·have hb':=hw'.world;refine FS.Jn (FS.PM (fun x:FV=>x.v) (fun x w'=>EF w' w601.heap.size x (q+r)) FV.blk w'.heap.size) ?_ (fun _ _ h=>h.post (fun _ _=>FV.inj));go_simp;have CT:=(show Calls Tryz.prog 130 #[.agg #[.bool t.c.t.s,.slice t.c.t.a t.c.t.n t.c.t.c,.bool t.c.l.s,.slice t.c.l.a t.c.l.n t.c.l.c],.agg #[.bool u.c.t.s,.slice u.c.t.a u.c.t.n u.c.t.c,.bool u.c.l.s,.slice u.c.l.a u.c.l.n u.c.l.c]] w' _ from raddV (x:=t.c) (y:=u.c) (NF.o.below hb').any HLF.o (NG.o.below hb').any HLG.o);refine CT.mono ?_;rintro e w'' ⟨za,rfl,ho,hb⟩;exact⟨_,rfl,⟨za,rfl,ho.mono hb'.size,ho.Q7⟩,hb⟩
     rintro _ ⟨y8,rfl⟩
     conv=>arg 10;simp only[Act.put,zq0,zq1,zq2]
     refine FS.Je rfl rfl rfl (fun w' hw'=>?_) ?_
     ·have hb':=hw'.world;refine FS.Jn (FS.PB 28 4 w601.heap.size w'.heap.size) ?_ (fun _ _ h=>h.post);go_simp;exact⟨FS.PB.new _ rfl hb'.size,zk.alloc zj _⟩
     rintro _ ⟨y9,rfl⟩
     conv=>arg 10;simp only[Act.put,zq0,zq1,zq2]
     refine FS.Jm (fun w1102 hb hF=>?_);have N1103:=qh (show EF w1102 w601.heap.size y8 (q+r) from(FS.JX (val:=(fun x:FV=>x.v)) (Φ:=fun x w'=>EF w' w601.heap.size x (q+r)) (fun _ _=>FV.inj) (hF.all 8)));have HX:=qh (FS.VW (hF.all 9));have HBW:=qh hb;clear hF hb;obtain⟨c0,c1,c2,c3,hB⟩:=shp4 HX.o.1;have HBB:=qh hB;clear hB;have m0:=HBB.o.ce 0;have m1:=HBB.o.ce 1;have m2:=HBB.o.ce 2;have m3:=HBB.o.ce 3;have mf:=HBB.o.fz;have ml:=HBB.o.lt
     go_upto_region 13 with (fail)
     obtain⟨v1104,hV⟩:∃ V,V=(((w1102.setCell ⟨y9,0,none⟩ (.bool y8.t.s)).setCell ⟨y9,1,none⟩ (.slice y8.t.a y8.t.n y8.t.c)).setCell ⟨y9,2,none⟩ (.bool y8.l.s)).setCell ⟨y9,3,none⟩ (.slice y8.l.a y8.l.n y8.l.c):=⟨_,rfl⟩
     have hbV:Below w601.heap.size w601 v1104:=by rw[hV];exact((((HBW.o.setCell HX.o.2 _).setCell HX.o.2 _).setCell HX.o.2 _).setCell HX.o.2 _)
     have BX1101:=qh (show Bxs v1104 y9 28 [.bool y8.t.s,.slice y8.t.a y8.t.n y8.t.c,.bool y8.l.s,.slice y8.l.a y8.l.n y8.l.c] by rw[hV];exact((((HBB.o.put 0 _).put 1 _).put 2 _).put 3 _));have N1103:=qh (show EF v1104 w601.heap.size y8 (q+r) by rw[hV];exact((((N1103.o.Jv HBB.o (by decide) 0 _).Jv (HBB.o.put 0 _) (by decide) 1 _).Jv ((HBB.o.put 0 _).put 1 _) (by decide) 2 _).Jv (((HBB.o.put 0 _).put 1 _).put 2 _) (by decide) 3 _));rw[show(((w1102.setCell ⟨y9,0,none⟩ (.bool y8.t.s)).setCell ⟨y9,1,none⟩ (.slice y8.t.a y8.t.n y8.t.c)).setCell ⟨y9,2,none⟩ (.bool y8.l.s)).setCell ⟨y9,3,none⟩ (.slice y8.l.a y8.l.n y8.l.c)=v1104 from hV.symm];clear m0 m1 m2 m3 mf ml HX HBW HBB;have NF:=qh (NF.o.below hbV);have NG:=qh (NG.o.below hbV);have ERR:=qh (ERR.o.below hbV);have KW:=qh (KW.o.below hbV);have KG:=qk KG hbV;clear hV hbV;have NS:=qh (N1103.o.mono HLO.o);have B7:=BX1101;have HLS:=qh (show LF y8 900000 from NS.o.k.len (LQ.add (m:=900000) HLT4.o HLU4.o (by omega)) zj);have CS:=qh (show Calls Tryz.prog 77 #[.agg #[.bool y8.t.s,.slice y8.t.a y8.t.n y8.t.c,.bool y8.l.s,.slice y8.l.a y8.l.n y8.l.c]] v1104 _ from YR (x:=y8) NS.o.k.any HLS.o);obtain⟨sg,hsg⟩:∃ c,c=Ju (q+r).num 0:=⟨_,rfl⟩;rw[<- hsg] at CS;have HGS:=qh (show(sg != 0)=decide (q+r≠0) by rw[hsg];exact sg_ne);clear hsg;have c70:=B7.o.ce 0;have c71:=B7.o.ce 1;have c72:=B7.o.ce 2;have c73:=B7.o.ce 3;go_wp2_with fail
     with_reducible refine CS.o.mono ?_
     rintro e w8 ⟨rfl,hb⟩;have ERR:=qh (ERR.o.below hb);have NS:=qh (NS.o.below hb);have KW:=qh (KW.o.below hb);have B7:=qh (B7.o.bl hb);have KG:=qk KG hb;have E1:=qh (HRE.o.below KG.o);clear hb CS c70 c71 c72 c73;by_cases hqr:q+r=0
     ·have g0:(sg != 0)=false:=by rw[HGS.o];exact zo fun h=>h hqr
      have g1:sg=0:=by simpa using g0
      have HQR:=qh hqr;clear hqr;go_wp2_with fail
      go_roundw
      case rel =>
       refine⟨P2,Q2,⟨if xc=1 then some ⟨pb,po,none⟩ else some ⟨pb,po+8,none⟩,xn-1,xc-1⟩,⟨if yc=1 then some ⟨qb,qo,none⟩ else some ⟨qb,qo+8,none⟩,yn-1,yc-1⟩,⟨oa,on,oc⟩,L,rfl,rfl,rfl,HP2.o,HQ2.o,fun v hv=>HMP.o v (by rw[HPE.o];exact List.mem_cons_of_mem _ hv),fun v hv=>HMQ.o v (by rw[HQE.o];exact List.mem_cons_of_mem _ hv),ERR.o,?_,?_,KW.o.b⟩
       ·rw[<- HALL.o,HPE.o,HQE.o,jgt (show t.m=u.m from HC3.o) HQR.o]
       ·have:=HOL.o;have:=HXP.o;show L.length+(xn-1)+(yn-1)<=nn;omega
      case measure=>simp[lenV];have:=HXP.o;omega
     ·have g0:(sg != 0)=true:=by rw[HGS.o];exact decide_eq_true hqr
      have g1:¬(sg=0):=by simpa using g0
      have HQR:=qh hqr;clear hqr
      go_upto_region 14 with (fail)
      go_upto_region 14 with (fail)
      refine FS.Jb 8 [] (FS.JH [(7,FS.Sp.made (fun b:Nat=>Value.slice (some ⟨b,0,none⟩) 1 1) (fun b w'=>Bxs w' b 71 [.bool y8.t.s,.slice y8.t.a y8.t.n y8.t.c,.bool y8.l.s,.slice y8.l.a y8.l.n y8.l.c,.int .u16 t.m.x,.int .u16 t.m.y,.int .u16 t.m.z,.int .u16 t.m.t]) (fun _ _=>False))])
       (fun w'=>Below w8.heap.size w8 w') (by kernel_rfl) (by kernel_rfl) (by kernel_rfl)
       (FS.Jd (FS.Sp.Qd _ (fun T=>T==71) (fun _ _ _ h hs=>jhf h hs rfl) (by kernel_rfl) (FS.JM (by kernel_rfl))) (FS.Jk)) (fun _ _ h hb=>h.trans (hb.mono h.size)) (zk.drew) ?_
      simp only[zu,zi,ze,zx,zy,zv,zw]
      iterate 7
       refine FS.Jc rfl rfl rfl ?_ (fun w' hw'=>?_) ?_;rotate_left
       ·have hb':=hw'.world;have hs0:=(B7.o.bl hb').ce 0;have hs1:=(B7.o.bl hb').ce 1;have hs2:=(B7.o.bl hb').ce 2;have hs3:=(B7.o.bl hb').ce 3;have hsf:=(B7.o.bl hb').fz;have hsl:=(B7.o.bl hb').lt;obtain⟨hs0,hs1,hs2,hs3,hs4,hs5,hs6,hs7⟩:=(E1.o.below hb').eight;simp only[Nat.zero_mul,Nat.add_zero] at hs0 hs1 hs2 hs3 hs4 hs5 hs6 hs7;clear hw';go_simp
        try rfl
       conv=>arg 10;simp only[Act.put,zq0,zq1,zq2]
      refine FS.Je rfl rfl rfl (fun w' hw'=>?_) ?_
      ·have hb':=hw'.world;refine FS.Jn (FS.PM (fun b:Nat=>Value.slice (some ⟨b,0,none⟩) 1 1) (fun b w'=>Bxs w' b 71 [.bool y8.t.s,.slice y8.t.a y8.t.n y8.t.c,.bool y8.l.s,.slice y8.l.a y8.l.n y8.l.c,.int .u16 t.m.x,.int .u16 t.m.y,.int .u16 t.m.z,.int .u16 t.m.t]) (fun _ _=>False) w'.heap.size) ?_ (fun _ _ h=>h.post (fun _ _ h=>by cases h;rfl));go_simp;exact⟨⟨w'.heap.size,rfl,Bxs.new w' _ _,fun _ h=>False.elim h⟩,zk.alloc zj _⟩
      rintro _ ⟨y7,rfl⟩
      conv=>arg 10;simp only[Act.put,zq0,zq1,zq2]
      refine FS.Jm (fun w1201 hb hF=>?_);have NB1202:=qh (FS.JX (val:=(fun b:Nat=>Value.slice (some ⟨b,0,none⟩) 1 1)) (Φ:=fun b w'=>Bxs w' b 71 [.bool y8.t.s,.slice y8.t.a y8.t.n y8.t.c,.bool y8.l.s,.slice y8.l.a y8.l.n y8.l.c,.int .u16 t.m.x,.int .u16 t.m.y,.int .u16 t.m.z,.int .u16 t.m.t]) (fun _ _ h=>by cases h;rfl) (hF.all 7));clear hF;have NS:=qh (NS.o.below hb);have ERR:=qh (ERR.o.below hb);have KW:=qh (KW.o.below hb);have B7:=qh (B7.o.bl hb);have KG:=qk KG hb;clear hb;go_wp2_with (first | (at_builtin;refine Ql (t:=⟨y8,t.m⟩) rfl _ _ rfl rfl ERR.o (by have:=HOL.o;have:=HNN.o;omega) KW.o.b.size rfl NB1202.o NS.o rfl ?_))
      intro z9 w9 her9 hb9;obtain⟨za9,zn9,zc9⟩:=z9;have ER9:=qh her9;have HB9:=qh hb9;clear her9 hb9;go_wp2_with fail
      go_roundw
      case rel =>
       refine⟨P2,Q2,⟨if xc=1 then some ⟨pb,po,none⟩ else some ⟨pb,po+8,none⟩,xn-1,xc-1⟩,⟨if yc=1 then some ⟨qb,qo,none⟩ else some ⟨qb,qo+8,none⟩,yn-1,yc-1⟩,⟨za9,zn9,zc9⟩,L++[(⟨y8,t.m⟩,q+r)],rfl,rfl,rfl,HP2.o,HQ2.o,fun v hv=>HMP.o v (by rw[HPE.o];exact List.mem_cons_of_mem _ hv),fun v hv=>HMQ.o v (by rw[HQE.o];exact List.mem_cons_of_mem _ hv),ER9.o,?_,?_,KW.o.b.trans HB9.o⟩
       ·rw[List.map_append,List.append_assoc,<- HALL.o,HPE.o,HQE.o,merge_eq (HPE.o▸HKP.o.canon) (HQE.o▸HKQ.o.canon) (show t.m=u.m from HC3.o) HQR.o];rfl
       ·rw[List.length_append,List.length_singleton];have:=HOL.o;have:=HXP.o;have:=HYP.o;show L.length+1+(xn-1)+(yn-1)<=nn;omega
      case measure=>simp[lenV];have:=HXP.o;omega
    ·have HC:=qh (key_gt0 HST.o HSU.o hc);have HMG:=qh (show Qf P' Q'=(t.m,q) :: Qf P2 Q' by rw[HQE.o,HPE.o];exact jcm (HPE.o▸HKP.o.canon) (jfe (HQE.o▸HKQ.o.canon) hc));clear hc
     go_upto_region 10 with (fail)
     go_upto_region 10 with (fail)
     refine FS.Jb 9 [] (FS.JH [(8,FS.Sp.know (.int .i64 1))])
      (fun w'=>Below wr.heap.size wr w') (by kernel_rfl) (by kernel_rfl) (by kernel_rfl)
      (FS.Jd (FS.Sp.Jl _ _) (FS.Jk)) (fun _ _ h hb=>h.trans (hb.mono h.size)) (zk.drew) ?_
     simp only[zu,zi,ze,zx,zy,zv,zw]
     iterate 8
      refine FS.Jc rfl rfl rfl ?_ (fun w' hw'=>?_) ?_;rotate_left
      ·have hb':=hw'.world;obtain⟨hs0,hs1,hs2,hs3,hs4,hs5,hs6,hs7⟩:=(E1.o.below hb').eight;simp only[Nat.zero_mul,Nat.add_zero] at hs0 hs1 hs2 hs3 hs4 hs5 hs6 hs7;obtain⟨hs0,hs1,hs2,hs3,hs4,hs5,hs6,hs7⟩:=(E2.o.below hb').eight;simp only[Nat.zero_mul,Nat.add_zero] at hs0 hs1 hs2 hs3 hs4 hs5 hs6 hs7;clear hw';go_simp
       try rfl
      conv=>arg 10;simp only[Act.put,zq0,zq1,zq2]
     refine FS.Je rfl rfl rfl (fun w' hw'=>?_) ?_
     ·have hb':=hw'.world;refine FS.Jn (FS.PK (.int .i64 1)) ?_ (fun _ _ h=>h.post);go_simp;have CT:=(show Calls Tryz.prog 151 #[.int .u8 0,.agg #[.int .u16 t.m.x,.int .u16 t.m.y,.int .u16 t.m.z,.int .u16 t.m.t],.agg #[.int .u16 u.m.x,.int .u16 u.m.y,.int .u16 u.m.z,.int .u16 u.m.t]] w' _ from jd7 0 t.m u.m w' HST.o HSU.o);rw[show Mono.Ju (Zm 0 t.m) (Zm 0 u.m)=1 from HC.o] at CT;refine CT.mono ?_;rintro e w'' ⟨rfl,hb⟩;exact⟨_,rfl,rfl,hb⟩
     rintro _ rfl
     conv=>arg 10;simp only[Act.put,zq0,zq1,zq2]
     refine FS.Jm (fun w401 hb hF=>?_);clear hF;have ERR:=qh (ERR.o.below hb);have KW:=qh (KW.o.below hb);have KG:=qk KG hb;clear hb;have E1:=qh (HRE.o.below KG.o);have E2:=qh (HRF.o.below KG.o);have NF:=qh (HNT.o.below KG.o);have NG:=qh (HNF.o.below KG.o)
     go_upto_region 18 with (fail)
     have HLO:=qh KW.o.b.size
     go_upto_region 18 with (fail)
     refine FS.Jb 12 [] (FS.JH [(5,FS.Sp.made (fun x:FV=>x.v) (fun x w'=>EF w' w401.heap.size x q) FV.blk),(11,FS.Sp.made (fun b:Nat=>Value.slice (some ⟨b,0,none⟩) 1 1) (fun b w'=>ZI w' w401.heap.size b t.m q) (fun _ _=>False))])
      (fun w'=>Below w401.heap.size w401 w') (by kernel_rfl) (by kernel_rfl) (by kernel_rfl)
      (FS.Jd (FS.Sp.Jg _ (fun _ _ _ h _ hk=>h.kept hk) (FS.JM (by kernel_rfl))) (FS.Jd (FS.Sp.Qd _ V7 (fun _ _ _ h hs=>h.rows hs) (by kernel_rfl) (FS.JM (by kernel_rfl))) (FS.Jk))) (fun _ _ h hb=>h.trans (hb.mono h.size)) (zk.drew) ?_
     simp only[zu,zi,ze,zx,zy,zv,zw]
     iterate 5
      refine FS.Jc rfl rfl rfl ?_ (fun w' hw'=>?_) ?_;rotate_left
      ·have hb':=hw'.world;obtain⟨hs0,hs1,hs2,hs3,hs4,hs5,hs6,hs7⟩:=(E1.o.below hb').eight;simp only[Nat.zero_mul,Nat.add_zero] at hs0 hs1 hs2 hs3 hs4 hs5 hs6 hs7;clear hw';go_simp
       try rfl
      conv=>arg 10;simp only[Act.put,zq0,zq1,zq2]
     refine FS.Je rfl rfl rfl (fun w' hw'=>?_) ?_
     ·have hb':=hw'.world;refine FS.Jn (FS.PM (fun x:FV=>x.v) (fun x w'=>EF w' w401.heap.size x q) FV.blk w'.heap.size) ?_ (fun _ _ h=>h.post (fun _ _=>FV.inj));go_simp;have CT:=(show Calls Tryz.prog 78 #[.agg #[.bool t.c.t.s,.slice t.c.t.a t.c.t.n t.c.t.c,.bool t.c.l.s,.slice t.c.l.a t.c.l.n t.c.l.c]] w' _ from jbb (c:=t.c) (NF.o.below hb').any HLF.o HLT.o);refine CT.mono ?_;rintro e w'' ⟨za,rfl,ho,hb⟩;exact⟨_,rfl,⟨za,rfl,ho.mono hb'.size,ho.Q7⟩,hb⟩
     rintro _ ⟨y5,rfl⟩
     conv=>arg 10;simp only[Act.put,zq0,zq1,zq2]
     iterate 5
      refine FS.Jc rfl rfl rfl ?_ (fun w' hw'=>?_) ?_;rotate_left
      ·have hb':=hw'.world;obtain⟨hs0,hs1,hs2,hs3,hs4,hs5,hs6,hs7⟩:=(E1.o.below hb').eight;simp only[Nat.zero_mul,Nat.add_zero] at hs0 hs1 hs2 hs3 hs4 hs5 hs6 hs7;clear hw';go_simp
       try rfl
      conv=>arg 10;simp only[Act.put,zq0,zq1,zq2]
     refine FS.Je rfl rfl rfl (fun w' hw'=>?_) ?_
     ·have hb':=hw'.world;refine FS.Jn (FS.PM (fun b:Nat=>Value.slice (some ⟨b,0,none⟩) 1 1) (fun b w'=>ZI w' w401.heap.size b t.m q) (fun _ _=>False) w'.heap.size) ?_ (fun _ _ h=>h.post (fun _ _ h=>by cases h;rfl));go_simp;have f5:=FS.JX (val:=(fun x:FV=>x.v)) (Φ:=fun x w'=>EF w' w401.heap.size x q) (fun _ _=>FV.inj) (hw'.jaz 10 5 (by kernel_rfl) (by kernel_rfl));exact⟨⟨w'.heap.size,rfl,⟨⟨y5,Bxs.new w' _ (TV.cells ⟨y5,t.m⟩),f5.alloc _⟩⟩,fun _ h=>False.elim h⟩,zk.alloc zj _⟩
     rintro _ ⟨y11,rfl⟩
     conv=>arg 10;simp only[Act.put,zq0,zq1,zq2]
     refine FS.Jm (fun w1001 hb hF=>?_);obtain⟨⟨yy1004,hB,hE⟩⟩:=FS.JX (val:=(fun b:Nat=>Value.slice (some ⟨b,0,none⟩) 1 1)) (Φ:=fun b w'=>ZI w' w401.heap.size b t.m q) (fun _ _ h=>by cases h;rfl) (hF.all 11);have NB1002:=qh hB;have NE1003:=qh hE;clear hB hE;clear hF;have NF:=qh (NF.o.below hb);have ERR:=qh (ERR.o.below hb);have KW:=qh (KW.o.below hb);have KG:=qk KG hb;clear hb;go_wp2_with (first | (at_builtin;refine Ql (t:=⟨yy1004,t.m⟩) rfl _ _ rfl rfl ERR.o (by have:=HOL.o;have:=HNN.o;omega) KW.o.b.size rfl NB1002.o (NE1003.o.mono HLO.o) rfl ?_))
     intro z9 w9 her9 hb9;obtain⟨za9,zn9,zc9⟩:=z9;have ER9:=qh her9;have HB9:=qh hb9;clear her9 hb9;go_wp2_with fail
     go_roundw
     case rel =>
      refine⟨P2,Q',⟨if xc=1 then some ⟨pb,po,none⟩ else some ⟨pb,po+8,none⟩,xn-1,xc-1⟩,⟨some ⟨qb,qo,none⟩,yn,yc⟩,⟨za9,zn9,zc9⟩,L++[(⟨yy1004,t.m⟩,q)],rfl,rfl,rfl,HP2.o,HKQ.o,fun v hv=>HMP.o v (by rw[HPE.o];exact List.mem_cons_of_mem _ hv),HMQ.o,ER9.o,?_,?_,KW.o.b.trans HB9.o⟩
      ·rw[List.map_append,List.append_assoc,<- HALL.o];refine congrArg _ ?_;rw[HMG.o];rfl
      ·rw[List.length_append,List.length_singleton];have:=HOL.o;have:=HXP.o;show L.length+1+(xn-1)+yn<=nn;omega
     case measure=>simp[lenV];have:=HXP.o;omega
theorem TwN.at_ {w:World} {lo:Nat} {t x:NV} {o:Nat->Int} (h:TwN w lo t x o):∃ g,t=⟨x.s,some ⟨g,0,none⟩,x.n,x.n+1⟩/\Rd w (some ⟨g,0,none⟩) (x.n+1) (tw o x.n):=by
 obtain⟨ts,ta,tn,tc⟩:=t;obtain⟨h1,h2,h3,h4⟩:=h;change ts=x.s at h1;change tn=x.n at h2;change tc=x.n+1 at h3;subst h1 h2 h3;obtain⟨g,rfl⟩:=h4.Qj (by omega);exact⟨g,rfl,h4.rd⟩
theorem jhh (t x:FV) (lo:Nat) (o1 o2:Nat->Int) (w:World) (h:TwF w lo t x o1 o2) (h1:Rd w x.t.a x.t.n o1) (hn1:x.t.n<=100000000) (h2:Rd w x.l.a x.l.n o2) (hn2:x.l.n<=100000000) :
  Calls Tryz.prog 22 #[t.v,x.v] w fun e w'=>e=.returned (.bool true)/\Below w.heap.size w w':=by
 obtain⟨g1,e1,r1⟩:=h.top.at_;obtain⟨g2,e2,r2⟩:=h.low.at_;obtain⟨tt,tl⟩:=t;change tt=_ at e1;change tl=_ at e2;subst e1 e2;exact jae x.t.s g1 x.t.a x.t.n x.t.c o1 x.l.s g2 x.l.a x.l.n x.l.c o2 w r1 h1 (by omega) r2 h2 (by omega)
theorem jaj (t u:TV) (lo:Nat) (o1 o2:Nat->Int) (w:World) (h:TwF w lo t.c u.c o1 o2) (h1:Rd w u.c.t.a u.c.t.n o1) (hn1:u.c.t.n<=100000000) (h2:Rd w u.c.l.a u.c.l.n o2) (hn2:u.c.l.n<=100000000) (hm:t.m=u.m):Calls Tryz.prog 82 #[TV.v t,TV.v u] w fun e w'=>e=.returned (.bool true)/\Below w.heap.size w w':=by
 obtain⟨V,hV⟩:∃ V,V=(w.alloc (.cells #[.bool t.c.t.s,.slice t.c.t.a t.c.t.n t.c.t.c,.bool t.c.l.s,.slice t.c.l.a t.c.l.n t.c.l.c,.int .u16 t.m.x,.int .u16 t.m.y,.int .u16 t.m.z,.int .u16 t.m.t] 71)).alloc (.cells #[.bool u.c.t.s,.slice u.c.t.a u.c.t.n u.c.t.c,.bool u.c.l.s,.slice u.c.l.a u.c.l.n u.c.l.c,.int .u16 u.m.x,.int .u16 u.m.y,.int .u16 u.m.z,.int .u16 u.m.t] 71):=⟨_,rfl⟩
 have hbV:Below w.heap.size w V:=by rw[hV];exact(zk.alloc zj _).alloc (by go_size) _
 have B1:=qh (show Bxs V w.heap.size 71 [.bool t.c.t.s,.slice t.c.t.a t.c.t.n t.c.t.c,.bool t.c.l.s,.slice t.c.l.a t.c.l.n t.c.l.c,.int .u16 t.m.x,.int .u16 t.m.y,.int .u16 t.m.z,.int .u16 t.m.t] by rw[hV];exact(Bxs.new w 71 [.bool t.c.t.s,.slice t.c.t.a t.c.t.n t.c.t.c,.bool t.c.l.s,.slice t.c.l.a t.c.l.n t.c.l.c,.int .u16 t.m.x,.int .u16 t.m.y,.int .u16 t.m.z,.int .u16 t.m.t]).alloc _)
 have B2:=qh (show Bxs V (w.heap.size+1) 71 [.bool u.c.t.s,.slice u.c.t.a u.c.t.n u.c.t.c,.bool u.c.l.s,.slice u.c.l.a u.c.l.n u.c.l.c,.int .u16 u.m.x,.int .u16 u.m.y,.int .u16 u.m.z,.int .u16 u.m.t] by
  have h:=Bxs.new (w.alloc (.cells #[.bool t.c.t.s,.slice t.c.t.a t.c.t.n t.c.t.c,.bool t.c.l.s,.slice t.c.l.a t.c.l.n t.c.l.c,.int .u16 t.m.x,.int .u16 t.m.y,.int .u16 t.m.z,.int .u16 t.m.t] 71)) 71 [.bool u.c.t.s,.slice u.c.t.a u.c.t.n u.c.t.c,.bool u.c.l.s,.slice u.c.l.a u.c.l.n u.c.l.c,.int .u16 u.m.x,.int .u16 u.m.y,.int .u16 u.m.z,.int .u16 u.m.t];rw[World.size_alloc] at h
  rw[hV];exact h)
 have KG:=qh hbV;have SF:=qh (jhh t.c u.c lo o1 o2 V (h.below hbV) (h1.below hbV) hn1 (h2.below hbV) hn2);have HV:=qh hV;obtain⟨tc,⟨mx,my,mz,mt⟩⟩:=t;obtain⟨uc,um⟩:=u;change (⟨mx,my,mz,mt⟩:Mo)=um at hm;subst hm;change Calls Tryz.prog 82 #[.agg #[.bool tc.t.s,.slice tc.t.a tc.t.n tc.t.c,.bool tc.l.s,.slice tc.l.a tc.l.n tc.l.c,.int .u16 mx,.int .u16 my,.int .u16 mz,.int .u16 mt],.agg #[.bool uc.t.s,.slice uc.t.a uc.t.n uc.t.c,.bool uc.l.s,.slice uc.l.a uc.l.n uc.l.c,.int .u16 mx,.int .u16 my,.int .u16 mz,.int .u16 mt]] w _;clear hV hbV h h1 h2;go_enter Tryz.func82,Tryz.ntmps82
 go_upto_region 1 with (fail)
 rw[show(w.alloc (.cells #[.bool tc.t.s,.slice tc.t.a tc.t.n tc.t.c,.bool tc.l.s,.slice tc.l.a tc.l.n tc.l.c,.int .u16 mx,.int .u16 my,.int .u16 mz,.int .u16 mt] 71)).alloc (.cells #[.bool uc.t.s,.slice uc.t.a uc.t.n uc.t.c,.bool uc.l.s,.slice uc.l.a uc.l.n uc.l.c,.int .u16 mx,.int .u16 my,.int .u16 mz,.int .u16 mt] 71)=V from HV.o.symm];have c10:=B1.o.ce 0;have c11:=B1.o.ce 1;have c12:=B1.o.ce 2;have c13:=B1.o.ce 3;have c14:=B1.o.ce 4;have c15:=B1.o.ce 5;have c16:=B1.o.ce 6;have c17:=B1.o.ce 7;have c20:=B2.o.ce 0;have c21:=B2.o.ce 1;have c22:=B2.o.ce 2;have c23:=B2.o.ce 3;have c24:=B2.o.ce 4;have c25:=B2.o.ce 5;have c26:=B2.o.ce 6;have c27:=B2.o.ce 7;go_wp2_with fail
 with_reducible refine SF.o.mono ?_
 rintro e w1 ⟨rfl,hb⟩;have KG:=qk KG hb;have B1:=qh (B1.o.bl hb);have B2:=qh (B2.o.bl hb);clear hb SF c10 c11 c12 c13 c14 c15 c16 c17 c20 c21 c22 c23 c24 c25 c26 c27;have c10:=B1.o.ce 0;have c11:=B1.o.ce 1;have c12:=B1.o.ce 2;have c13:=B1.o.ce 3;have c14:=B1.o.ce 4;have c15:=B1.o.ce 5;have c16:=B1.o.ce 6;have c17:=B1.o.ce 7;have c20:=B2.o.ce 0;have c21:=B2.o.ce 1;have c22:=B2.o.ce 2;have c23:=B2.o.ce 3;have c24:=B2.o.ce 4;have c25:=B2.o.ce 5;have c26:=B2.o.ce 6;have c27:=B2.o.ce 7;go_wp2_with fail
 go_ret;exact⟨rfl,KG.o⟩
theorem jak (x y:PV) (ts us:List TV) (lo:Nat) (w0 w:World) (hx:TwP w0 w lo x ts us) (hw:Below w0.heap.size w0 w) (hy:RT w0 y.a us) (hyn:us.length=y.n) (hn:y.n<=1000000) (hrd:∀ u∈us,u.c.t.n<=100000000/\u.c.l.n<=100000000) :
  Calls Tryz.prog 21 #[x.v,y.v] w fun e w'=>e=.returned (.bool true)/\Below w.heap.size w w':=by
 have hxl:x.n=y.n:=hx.n.trans hyn;obtain⟨xa,xn,xc⟩:=x;obtain⟨ya,n,yc⟩:=y;change xn=n at hxl;subst hxl;obtain⟨a',c',e',hcc,hrx⟩:=OT.slice hx.row
 have hll:(ts++[YS]).length=xn+1:=by
  rw[List.length_append,hx.len,show us.length=xn from hyn];rfl
 rw[hll] at e' hcc;change Value.slice xa (xn+1) xc=.slice a' (xn+1) c' at e'
 obtain⟨rfl,rfl⟩:xa=a'/\xc=c':=by injection e' with e1 e2 e3;exact⟨e1,e3⟩
 clear e';have HNN:=qh (show xn<=1000000 from hn);have NU:=qh (show us.length=xn from hyn);have NT:=qh (show ts.length=xn from hx.len.trans hyn);have EA:=qh hx.each;have HRD:=qh hrd;have HW:=qh hw;have RX:=qh (hrx.one (by simp));have RY:=qh (RT.below (show RT w0 ya us from hy) hw)
 have g1:¬xc<=xn:=by omega
 have g2:¬(xc:Int)<=(xn:Int):=by omega
 have g3:xn+1<=xc:=hcc
 have g4:(xn:Int)+1<=(xc:Int):=by omega
 have g5:IntKind.i64.wrap ((xn:Int)+1)=(xn:Int)+1:=IntWalk.i64_in _ (by have:=HNN.o;omega);have G:=qh (And.intro g1 (And.intro g2 (And.intro g3 (And.intro g4 g5))));change Calls Tryz.prog 21 #[.slice xa xn xc,.slice ya xn yc] w _;clear hx hw hy hyn hn hrd hrx hcc hll g3 g4 g5;obtain⟨pb,po,rfl,hp⟩:=RX.o;have HP:=qh hp;clear hp RX;go_enter Tryz.func21,Tryz.ntmps21;go_wp2_with fail
 clear g1 g2;go_loopw [5] (fun i wr=>∃ j:Nat,j<=xn/\i=.int .i64 j/\Below w.heap.size w wr) (fun i _=>xn-(intOf i).toNat)
 case atStart =>
  exact⟨0,Nat.zero_le _,rfl,zk⟩
 case round =>
  obtain⟨j,hj,rfl,hb0⟩:=hrel;have HJ:=qh hj;have KG:=qh hb0;clear hj hb0;by_cases hjn:j<xn
  ·have HJN:=qh hjn;obtain⟨t,ht⟩:∃ t,ts[j]?=some t:=⟨_,List.getElem?_eq_getElem (by rw[NT.o];exact hjn)⟩;obtain⟨u,hu⟩:∃ u,us[j]?=some u:=⟨_,List.getElem?_eq_getElem (by rw[NU.o];exact hjn)⟩;obtain⟨qb,qo,rfl,hc2⟩:=(RY.o.below KG.o).one (fun h=>by rw[h] at hu;simp at hu);have E1:=qh ((HP.o j t (by rw[List.getElem?_append_left (by rw[NT.o];exact hjn)];exact ht)).below KG.o);have E2:=qh (hc2 j u hu);obtain⟨hm,o1,o2,r1,r2,hf⟩:=EA.o j t u ht hu;obtain⟨s1,s2⟩:=HRD.o u (List.mem_of_getElem? hu);have HM:=qh hm;have HF:=qh (hf.below KG.o);have HR1:=qh ((r1.below HW.o).below KG.o);have HR2:=qh ((r2.below HW.o).below KG.o);have HS1:=qh s1;have HS2:=qh s2;have ek:IntKind.i64.wrap ((j:Int)+1)=(j:Int)+1:=IntWalk.i64_in _ (by have:=HJN.o;have:=HNN.o;omega);clear hc2 ht hu hm r1 r2 hf s1 s2
   go_upto_region 6 with (fail)
   refine FS.Jb 9 [] (FS.JH [(8,FS.Sp.know (.bool true))])
    (fun w'=>Below wr.heap.size wr w') (by kernel_rfl) (by kernel_rfl) (by kernel_rfl)
    (FS.Jd (FS.Sp.Jl _ _) (FS.Jk)) (fun _ _ h hb=>h.trans (hb.mono h.size)) (zk.drew) ?_
   simp only[zu,zi,ze,zx,zy,zv,zw]
   iterate 8
    refine FS.Jc rfl rfl rfl ?_ (fun w' hw'=>?_) ?_;rotate_left
    ·have hb':=hw'.world;obtain⟨hs0,hs1,hs2,hs3,hs4,hs5,hs6,hs7⟩:=(E1.o.below hb').eight;obtain⟨hs0,hs1,hs2,hs3,hs4,hs5,hs6,hs7⟩:=(E2.o.below hb').eight;clear hw';go_simp
     try rfl
    conv=>arg 10;simp only[Act.put,zq0,zq1,zq2]
   refine FS.Je rfl rfl rfl (fun w' hw'=>?_) ?_
   ·have hb':=hw'.world;refine FS.Jn (FS.PK (.bool true)) ?_ (fun _ _ h=>h.post);go_simp;have CT:=jaj t u lo o1 o2 w' (HF.o.below hb') (HR1.o.below hb') HS1.o (HR2.o.below hb') HS2.o HM.o;refine CT.mono ?_;rintro e w'' ⟨rfl,hb⟩;exact⟨_,rfl,rfl,hb⟩
   rintro _ rfl
   conv=>arg 10;simp only[Act.put,zq0,zq1,zq2]
   refine FS.Jm (fun w101 hb hF=>?_);clear hF;have KG:=qk KG hb;clear hb;go_wp2_with fail
   go_roundw
   case rel =>
    exact⟨j+1,by have:=HJN.o;omega,rfl,KG.o⟩
   case measure=>simp[intOf];have:=HJN.o;omega
  ·have hge:¬((j:Int)<(xn:Int)):=by omega
   obtain rfl:j=xn:=by have:=HJ.o;omega
   obtain⟨g1,g2,g3,g4,g5⟩:=G.o;have E1:=qh ((HP.o j YS (by rw[List.getElem?_append_right (by rw[NT.o];exact zj),NT.o,Nat.sub_self];rfl)).below KG.o);obtain⟨h0,h1,h2,h3,h4,h5,h6,h7⟩:=E1.o.eight;have HA:=qh (KG.o.alloc KG.o.size (.cells (TV.cells YS).toArray 71));clear hjn;go_wp2_with fail
   go_ret;exact⟨rfl,HA.o⟩
theorem rd_same {w:World} {a:Option Addr} {n:Nat} {o p:Nat->Int} (h:Rd w a n o) (g:Rd w a n p):∀ i,i<n->o i=p i:=fun i hi=>by
 obtain⟨b,off,ha,hc⟩:=h.cells (by omega);obtain⟨b2,off2,ha2,hc2⟩:=g.cells (by omega);rw[ha] at ha2
 cases ha2
 have h1:=hc i hi;rw[hc2 i hi] at h1
 injection h1 with h1
 injection h1 with _ h1
 exact h1.symm
theorem TwN.rd {w0 w:World} {lo:Nat} {t x:NV} {o p:Nat->Int} (h:TwN w lo t x o) (h1:Rd w0 x.a x.n o) (h2:Rd w0 x.a x.n p):Rd w t.a t.n p:=by
 rw[h.n]
 exact(h.own.rd.le (Nat.le_succ _)).congr fun i hi=>by
  unfold tw;rw[if_pos hi];exact rd_same h1 h2 i hi
theorem TwN.le {w:World} {lo:Nat} {t x:NV} {o:Nat->Int} (h:TwN w lo t x o):t.n<=t.c:=by rw[h.n,h.c];exact Nat.le_succ _
theorem TwF.k {w0 w:World} {lo:Nat} {t x:FV} {o1 o2:Nat->Int} {q:Rat} (h:TwF w lo t x o1 o2) (h1:Rd w0 x.t.a x.t.n o1) (h2:Rd w0 x.l.a x.l.n o2) (hk:KF w0 x q):KF w t q :=
 ⟨⟨h.top.s.trans hk.t.s,h.top.n.trans hk.t.n,h.top.rd h1 hk.t.rd,h.top.le⟩,⟨h.low.s.trans hk.l.s,h.low.n.trans hk.l.n,h.low.rd h2 hk.l.rd,h.low.le⟩⟩
theorem TwF.b {w0 w:World} {lo:Nat} {t x:FV} {o1 o2:Nat->Int} (h:TwF w lo t x o1 o2) (h1:Rd w0 x.t.a x.t.n o1) (h2:Rd w0 x.l.a x.l.n o2) (hk:BF w0 x):BF w t:=by
 obtain⟨p1,p2,g1,g2,g3⟩:=hk.ex;exact⟨⟨p1,p2,h.top.rd h1 g1,h.low.rd h2 g2,by rw[h.top.s,h.top.n,h.low.s,h.low.n];exact g3⟩,h.top.le,h.low.le⟩
theorem TwF.a {w0 w:World} {lo:Nat} {t x:FV} {o1 o2:Nat->Int} {q:Rat} (h:TwF w lo t x o1 o2) (h1:Rd w0 x.t.a x.t.n o1) (h2:Rd w0 x.l.a x.l.n o2) (hk:AF w0 x q):AF w t q:=by
 obtain⟨p1,p2,g1,g2,g3⟩:=hk.ex;exact⟨⟨p1,p2,h.top.rd h1 g1,h.low.rd h2 g2,by rw[h.top.s,h.top.n,h.low.s,h.low.n];exact g3⟩,h.top.le,h.low.le⟩
theorem TwP.rt {w0 w:World} {lo:Nat} {x:PV} {ts us:List TV} (h:TwP w0 w lo x ts us):RT w x.a ts/\ts.length=x.n/\x.n<=x.c:=by
 have hxn:=h.n;have hle:=h.len;obtain⟨xa,xn,xc⟩:=x;change xn=us.length at hxn;obtain⟨a',c',e,hc,hr⟩:=OT.slice h.row;change Value.slice xa (xn+1) xc=_ at e
 injection e with e1 e2 e3
 subst e1 e3;refine⟨⟨fun hne=>?_⟩,by show ts.length=xn;omega,by show xn<=xc;omega⟩;obtain⟨b,off,ha,hcc⟩:=hr.ex (by simp);exact⟨b,off,ha,fun i t hi=>hcc i t (by rw[List.getElem?_append_left (List.getElem?_eq_some_iff.1 hi).1];exact hi)⟩
def Tw2 (w0 w:World) (lo:Nat) (y x:PV):Prop:=∃ ts us,TwP w0 w lo y ts us/\RT w0 x.a us/\us.length=x.n/\∀ u∈us,u.c.t.n<=100000000/\u.c.l.n<=100000000
theorem TwP.below {w0 w w':World} {lo:Nat} {x:PV} {ts us:List TV} (h:TwP w0 w lo x ts us) (hb:Below w.heap.size w w'):TwP w0 w' lo x ts us:=⟨OT.below h.row hb,h.n,h.len,fun i t u h1 h2=>(h.each i t u h1 h2).below hb,h.ap⟩
theorem Tw2.below {w0 w w':World} {lo:Nat} {y x:PV} (h:Tw2 w0 w lo y x) (hb:Below w.heap.size w w'):Tw2 w0 w' lo y x:=by
 obtain⟨ts,us,h1,h2⟩:=h;exact⟨ts,us,h1.below hb,h2⟩
theorem Tw2.left {w0 w:World} {lo:Nat} {y x:PV} (h:Tw2 w0 w lo y x) (hw:Below w0.heap.size w0 w) (hn:x.n<=1000000) :
  Calls Tryz.prog 21 #[y.v,x.v] w fun e w'=>e=.returned (.bool true)/\Below w.heap.size w w':=by
 obtain⟨ts,us,h1,h2,h3,h4⟩:=h;exact jak y x ts us lo w0 w h1 hw h2 h3 hn h4
theorem jfg {α β:Type} {l:List α} {m:List β} {i:Nat} {a:α} {b:β} (h:(l.zip m)[i]?=some (a,b)):l[i]?=some a/\m[i]?=some b:=by
 rw[List.getElem?_zip_eq_some] at h;exact h
theorem twin_k (x:PV) (P:List Tm) (w:World) (h:KP w x P) (hl:∀ t∈P,LQ t.2 900000) (hx:x.n<=1000000) :
  Calls Tryz.prog 12 #[x.v] w fun e w'=>∃ y:PV,e=.returned y.v/\y.n=x.n/\KP w' y P/\Tw2 w w' w.heap.size y x/\Below w.heap.size w w':=by
 obtain⟨L,h1,h2,h3,h4⟩:=h.ex
 have hs:∀ u∈L.map Prod.fst,u.c.t.n<=100000000/\u.c.l.n<=100000000:=fun u hu=>by
  obtain⟨e,he,rfl⟩:=List.mem_map.1 hu;have:=(h3 e he).len (hl (e.1.m,e.2) (by rw[<- h4];exact List.mem_map.2 ⟨e,he,rfl⟩)) zj;exact⟨by have:=this.1;omega,by have:=this.2;omega⟩
 refine(Kl x (L.map Prod.fst) w h1 (by rw[List.length_map,h2]) hx fun u hu=>?_).mono fun e w' ⟨y,ts,he,hn,ht,hb⟩=>?_
 ·obtain⟨g1,g2⟩:=hs u hu;obtain⟨e,he,rfl⟩:=List.mem_map.1 hu;exact⟨_,_,(h3 e he).t.rd,(h3 e he).l.rd,g1,g2⟩
 ·obtain⟨r1,r2,r3⟩:=ht.rt
  have hlen:ts.length=(L.map Prod.snd).length:=by rw[ht.len,List.length_map,List.length_map]
  refine⟨y,he,hn,⟨⟨ts.zip (L.map Prod.snd),?_,?_,fun e he=>?_,?_⟩,r3,h.canon,h.small⟩,⟨ts,_,ht,h1,by rw[List.length_map,h2],hs⟩,hb⟩
  ·rw[List.map_fst_zip (by omega)];exact r1
  ·rw[List.length_zip,<- hlen,Nat.min_self,r2]
  ·obtain⟨i,hi⟩:=List.mem_iff_getElem?.1 he;obtain⟨t,q⟩:=e;obtain⟨i1,i2⟩:=jfg hi;rw[List.getElem?_map] at i2;obtain⟨e2,e3,rfl⟩:=Option.map_eq_some_iff.1 i2;obtain⟨-,o1,o2,g1,g2,g3⟩:=ht.each i t e2.1 i1 (by rw[List.getElem?_map,e3];rfl);exact g3.k g1 g2 (h3 e2 (List.mem_of_getElem? e3))
  ·rw[<- h4]
   refine List.ext_getElem? fun i=>?_
   rw[List.getElem?_map,List.getElem?_map]
   cases e3:L[i]? with
   | none =>
    have h9:=List.getElem?_eq_none_iff.1 e3
    rw[List.getElem?_eq_none (l:=ts.zip (L.map Prod.snd)) (by rw[List.length_zip,hlen,List.length_map,Nat.min_self];exact h9)]
   | some e2 =>
    have hil:=(List.getElem?_eq_some_iff.1 e3).1;obtain⟨t,e4⟩:∃ t,ts[i]?=some t:=⟨_,List.getElem?_eq_getElem (by rw[hlen,List.length_map];exact hil)⟩
    have e5:(ts.zip (L.map Prod.snd))[i]?=some (t,e2.2):=by
     rw[List.getElem?_zip_eq_some];exact⟨e4,by rw[List.getElem?_map,e3];rfl⟩
    obtain⟨hm,-⟩:=ht.each i t e2.1 e4 (by rw[List.getElem?_map,e3];rfl);rw[e5];show some (t.m,e2.2)=some (e2.1.m,e2.2);rw[hm]
theorem U8:∀ {L M:List TO},L.length=M.length->(∀ (i:Nat) (e f:TO),L[i]?=some e->M[i]?=some f->e.1.m=f.1.m/\e.2=f.2)->vals L=vals M
 | [],[],_,_=>rfl
 | [],_ :: _,h,_=>by simp at h
 | _ :: _,[],h,_=>by simp at h
 | (a,p) :: l,(b,q) :: m,h,hh=>by
  obtain⟨h1,h2⟩:=hh 0 _ _ rfl rfl;have h1:a.m=b.m:=h1;have h2:p=q:=h2;subst h2
  have:=U8 (L:=l) (M:=m) (by simpa using h) fun i e f he hf=>hh (i+1) e f he hf
  unfold vals;rw[this];clear h hh this
  cases p with
  | none=>rfl
  | some q =>
   cases vals m with
   | none=>rfl
   | some l =>
    show some ((a.m,q) :: l)=some ((b.m,q) :: l);rw[h1]
theorem twin_b (x:PV) (w:World) (h:BP w x) (hx:x.n<=1000000) :
  Calls Tryz.prog 12 #[x.v] w fun e w'=>∃ y:PV,e=.returned y.v/\y.n=x.n/\BP w' y/\Tw2 w w' w.heap.size y x/\Below w.heap.size w w':=by
 obtain⟨L,⟨h1,h2,h3,h4,h5,h6⟩,hno⟩:=h
 have hs:∀ u∈L.map Prod.fst,u.c.t.n<=100000000/\u.c.l.n<=100000000:=fun u hu=>by
  obtain⟨e,he,rfl⟩:=List.mem_map.1 hu;have:=h6 e he;exact⟨by have:=this.1;omega,by have:=this.2;omega⟩
 refine(Kl x (L.map Prod.fst) w h1 (by rw[List.length_map,h2]) hx fun u hu=>?_).mono fun e w' ⟨y,ts,he,hn,ht,hb⟩=>?_
 ·obtain⟨g1,g2⟩:=hs u hu;obtain⟨e,he,rfl⟩:=List.mem_map.1 hu;have h7:=h4 e he;unfold TO.ok at h7;split at h7
  ·exact⟨_,_,h7.t.rd,h7.l.rd,g1,g2⟩
  ·obtain⟨o1,o2,q1,q2,-⟩:=h7.ex;exact⟨o1,o2,q1,q2,g1,g2⟩
 ·obtain⟨r1,r2,r3⟩:=ht.rt
  have hlen:ts.length=(L.map Prod.snd).length:=by rw[ht.len,List.length_map,List.length_map]
  have get:∀ (i:Nat) (e:TO),(ts.zip (L.map Prod.snd))[i]?=some e->∃ e2 o1 o2,L[i]?=some e2/\e.2=e2.2/\e.1.m=e2.1.m/\Rd w e2.1.c.t.a e2.1.c.t.n o1/\Rd w e2.1.c.l.a e2.1.c.l.n o2/\TwF w' w.heap.size e.1.c e2.1.c o1 o2:=fun i e hi=>by
   obtain⟨t,q⟩:=e;obtain⟨i1,i2⟩:=jfg hi;rw[List.getElem?_map] at i2;obtain⟨e2,e3,rfl⟩:=Option.map_eq_some_iff.1 i2;obtain⟨hm,o1,o2,g1,g2,g3⟩:=ht.each i t e2.1 i1 (by rw[List.getElem?_map,e3];rfl);exact⟨e2,o1,o2,e3,rfl,hm,g1,g2,g3⟩
  refine⟨y,he,hn,⟨ts.zip (L.map Prod.snd),⟨?_,?_,r3,fun e he=>?_,fun e he=>?_,fun e he=>?_⟩,?_⟩,⟨ts,_,ht,h1,by rw[List.length_map,h2],hs⟩,hb⟩
  ·rw[List.map_fst_zip (by omega)];exact r1
  ·rw[List.length_zip,<- hlen,Nat.min_self,r2]
  ·obtain⟨i,hi⟩:=List.mem_iff_getElem?.1 he;obtain⟨e2,o1,o2,g1,g2,-,g3,g4,g5⟩:=get i e hi;have h7:=h4 e2 (List.mem_of_getElem? g1);obtain⟨t,q⟩:=e;obtain⟨t2,q2⟩:=e2;have g2:q=q2:=g2;subst g2;unfold TO.ok at h7 ⊢
   cases q with
   | some q=>exact g5.k g3 g4 h7
   | none=>exact g5.b g3 g4 h7
  ·obtain⟨i,hi⟩:=List.mem_iff_getElem?.1 he;obtain⟨e2,o1,o2,g1,-,g2,-⟩:=get i e hi;rw[g2];exact h5 e2 (List.mem_of_getElem? g1)
  ·obtain⟨i,hi⟩:=List.mem_iff_getElem?.1 he;obtain⟨e2,o1,o2,g1,-,-,-,-,g5⟩:=get i e hi;have h8:=h6 e2 (List.mem_of_getElem? g1);exact⟨by rw[g5.top.n];exact h8.1,by rw[g5.low.n];exact h8.2⟩
  ·rw[show okP (ts.zip (L.map Prod.snd))=okP L by
    unfold okP
    rw[U8 (L:=ts.zip (L.map Prod.snd)) (M:=L) (by rw[List.length_zip,hlen,Nat.min_self,List.length_map]) fun i e f he hf=>by
     obtain⟨e2,-,-,g1,g2,g3,-⟩:=get i e he;rw[hf] at g1;obtain rfl:=Option.some.inj g1
     exact⟨g3,g2⟩]]
   exact hno
theorem VD (x:PV) (P:List Tm) (y:FV) (um:Mo) (uq:Rat) (w:World) (hx:KP w x P) (hq:∀ t∈P,LQ t.2 900000) (hxn:x.n<=1000000) (hy:KF w y uq) (hyl:LF y 900000) (hu:um.Small) (hz:uq≠0) :
  Calls Tryz.prog 156 #[x.v,TV.v ⟨y,um⟩] w fun e w'=>(∃ z:PV,e=.returned (.tuple #[z.v,.int .i64 0])/\(∀ t∈P,(t.1.mul um).Small)/\EP w' w.heap.size z (Xt P [(um,uq)])/\Below w.heap.size w w') \/
   (e=.returned (.tuple #[.slice none 0 0,.int .i64 3])/\(∃ t∈P,¬(t.1.mul um).Small)/\Below w.heap.size w w'):=by
 obtain⟨za,zn,zc⟩:=x;obtain⟨V,hV⟩:∃ V,V=w.alloc (.cells #[.bool y.t.s,.slice y.t.a y.t.n y.t.c,.bool y.l.s,.slice y.l.a y.l.n y.l.c,.int .u16 um.x,.int .u16 um.y,.int .u16 um.z,.int .u16 um.t] 71):=⟨_,rfl⟩
 have hbV:Below w.heap.size w V:=by rw[hV];exact zk.alloc zj _
 have B3:=qh (show Bxs V w.heap.size 71 [.bool y.t.s,.slice y.t.a y.t.n y.t.c,.bool y.l.s,.slice y.l.a y.l.n y.l.c,.int .u16 um.x,.int .u16 um.y,.int .u16 um.z,.int .u16 um.t] by rw[hV];exact Bxs.new w 71 [.bool y.t.s,.slice y.t.a y.t.n y.t.c,.bool y.l.s,.slice y.l.a y.l.n y.l.c,.int .u16 um.x,.int .u16 um.y,.int .u16 um.z,.int .u16 um.t]);have FZ:=qh hx;have HQ:=qh hq;have HLU:=qh hyl;have HSU:=qh hu;have HZU:=qh hz;have NU:=qh (hy.below hbV);have KG:=qh hbV;have HV:=qh hV;have HZN:=qh (show zn<=1000000 from hxn);have HPL:=qh (show zn=P.length from hx.len);clear hV hbV hx hy hyl hu hz hxn hq;change Calls Tryz.prog 156 #[.slice za zn zc,.agg #[.bool y.t.s,.slice y.t.a y.t.n y.t.c,.bool y.l.s,.slice y.l.a y.l.n y.l.c,.int .u16 um.x,.int .u16 um.y,.int .u16 um.z,.int .u16 um.t]] w _;go_enter Tryz.func156,Tryz.ntmps156
 go_upto_region 1 with (fail)
 rw[show w.alloc (.cells #[.bool y.t.s,.slice y.t.a y.t.n y.t.c,.bool y.l.s,.slice y.l.a y.l.n y.l.c,.int .u16 um.x,.int .u16 um.y,.int .u16 um.z,.int .u16 um.t] 71)=V from HV.o.symm];have HLW:=qh KG.o.size;go_wp2_with fail
 go_loopw [6,7] (fun o i wr=>∃ (k:Nat) (z:PV) (L:List TE),o=z.v/\i=.int .i64 k/\k<=zn/\ER wr V.heap.size z.v L/\L.map tm=(P.take k).map (fun t=>(t.1.mul um,t.2*uq))/\(∀ t∈P.take k,(t.1.mul um).Small)/\Below V.heap.size V wr) (fun _ i _=>zn-(intOf i).toNat)
 case atStart=>exact⟨0,⟨none,0,0⟩,[],rfl,rfl,Nat.zero_le _,ER.nil,rfl,fun t h=>(by cases h),zk⟩
 case round =>
  obtain⟨k,⟨oa,on,oc⟩,L,ho,rfl,hkz,her,hL,hsm,hb0⟩:=hrel;obtain rfl:_=Value.slice oa on oc:=ho;have HKZ:=qh hkz;have ERR:=qh her;have HL:=qh hL;have HAS:=qh hsm;have KW:=qh (show Bt V wr from⟨hb0⟩);have B3:=qh (B3.o.bl hb0);have NU:=qh (NU.o.below hb0);have KG:=qk KG hb0;have HOL:=qh (show L.length<=zn by have h:=congrArg List.length hL;rw[List.length_map,List.length_map,List.length_take] at h;omega);clear hkz her hL hsm hb0;by_cases hkl:k<zn
  ·have HKL:=qh hkl
   have hkl2:(k:Int)<(zn:Int):=by omega
   obtain⟨t,q,pb,po,rfl,hre,hnf,htp⟩:=FZ.o.get HKL.o;have E1:=qh (hre.below KG.o);have NF:=qh (hnf.below KG.o);have HTP:=qh htp;have HLF:=qh (show LF t.c 900000 from hnf.len (HQ.o _ (List.mem_of_getElem? htp)) zj);have HST:=qh (show t.m.Small from FZ.o.small _ (List.mem_of_getElem? htp));have HRE:=qh hre;have HNF:=qh hnf;clear hkl hre hnf htp;by_cases hs:(t.m.mul um).Small
   ·have HSM:=qh hs;clear hs
    go_upto_region 5 with (fail)
    refine FS.Jb 13 [(12,11)] (FS.JH [(7,FS.Sp.know (.tuple #[.agg #[.int .u16 (t.m.mul um).x,.int .u16 (t.m.mul um).y,.int .u16 (t.m.mul um).z,.int .u16 (t.m.mul um).t],.int .i64 0])),(11,FS.Sp.box 69 4 wr.heap.size)])
     (fun w'=>Below wr.heap.size wr w') (by kernel_rfl) (by kernel_rfl) (by kernel_rfl)
     (FS.Jd (FS.Sp.Jl _ _) (FS.Jd (FS.Sp.Yc _ _ _ _) (FS.Jk))) (fun _ _ h hb=>h.trans (hb.mono h.size)) (zk.drew) ?_
    simp only[zu,zi,ze,zx,zy,zv,zw]
    iterate 7
     refine FS.Jc rfl rfl rfl ?_ (fun w' hw'=>?_) ?_;rotate_left
     ·have hb':=hw'.world;obtain⟨hs0,hs1,hs2,hs3,hs4,hs5,hs6,hs7⟩:=(E1.o.below hb').eight;have hs0:=(B3.o.bl hb').ce 0;have hs1:=(B3.o.bl hb').ce 1;have hs2:=(B3.o.bl hb').ce 2;have hs3:=(B3.o.bl hb').ce 3;have hs4:=(B3.o.bl hb').ce 4;have hs5:=(B3.o.bl hb').ce 5;have hs6:=(B3.o.bl hb').ce 6;have hs7:=(B3.o.bl hb').ce 7;have hsf:=(B3.o.bl hb').fz;have hsl:=(B3.o.bl hb').lt;clear hw';go_simp
      try rfl
     conv=>arg 10;simp only[Act.put,zq0,zq1,zq2]
    refine FS.Je rfl rfl rfl (fun w' hw'=>?_) ?_
    ·have hb':=hw'.world;refine FS.Jn (FS.PK (.tuple #[.agg #[.int .u16 (t.m.mul um).x,.int .u16 (t.m.mul um).y,.int .u16 (t.m.mul um).z,.int .u16 (t.m.mul um).t],.int .i64 0])) ?_ (fun _ _ h=>h.post);go_simp;have CT:=(show Calls Tryz.prog 236 #[.agg #[.int .u16 t.m.x,.int .u16 t.m.y,.int .u16 t.m.z,.int .u16 t.m.t],.agg #[.int .u16 um.x,.int .u16 um.y,.int .u16 um.z,.int .u16 um.t]] w' _ from jhe t.m um w' HSM.o);refine CT.mono ?_;rintro e w'' ⟨rfl,hb⟩;exact⟨_,rfl,rfl,hb⟩
    rintro _ rfl
    conv=>arg 10;simp only[Act.put,zq0,zq1,zq2]
    iterate 3
     refine FS.Jc rfl rfl rfl ?_ (fun w' hw'=>?_) ?_;rotate_left
     ·have hb':=hw'.world;skip;clear hw';go_simp
      try rfl
     conv=>arg 10;simp only[Act.put,zq0,zq1,zq2]
    refine FS.Je rfl rfl rfl (fun w' hw'=>?_) ?_
    ·have hb':=hw'.world;refine FS.Jn (FS.PB 69 4 wr.heap.size w'.heap.size) ?_ (fun _ _ h=>h.post);go_simp;exact⟨FS.PB.new _ rfl hb'.size,zk.alloc zj _⟩
    rintro _ ⟨y11,rfl⟩
    conv=>arg 10;simp only[Act.put,zq0,zq1,zq2]
    refine FS.Ub rfl rfl 11 rfl rfl rfl rfl (fun _=>Iff.rfl) (fun w' hw'=>?_) ?_
    ·have hb':=hw'.world;have hX:=FS.VW (hw'.fact 11 (by kernel_rfl));obtain⟨c0,c1,c2,c3,hB⟩:=shp4 hX.1;have m0:=hB.ce 0;have m1:=hB.ce 1;have m2:=hB.ce 2;have m3:=hB.ce 3;have mf:=hB.fz;have ml:=hB.lt;refine FS.Uc ?_ (store4 hb' hX.2 hB (.int .u16 (t.m.mul um).x) (.int .u16 (t.m.mul um).y) (.int .u16 (t.m.mul um).z) (.int .u16 (t.m.mul um).t));clear hw';go_simp
     try rfl
    conv=>arg 10;simp only[Act.put,zq0,zq1,zq2]
    refine FS.Jm (fun w102 hb hF=>?_);have BX101:=qh (show Bxs w102 y11 69 [.int .u16 (t.m.mul um).x,.int .u16 (t.m.mul um).y,.int .u16 (t.m.mul um).z,.int .u16 (t.m.mul um).t] from Vn (hF.all 12));clear hF;have NU:=qh (NU.o.below hb);have ERR:=qh (ERR.o.below hb);have KW:=qh (KW.o.below hb);have B3:=qh (B3.o.bl hb);have KG:=qk KG hb;clear hb
    go_upto_region 8 with (fail)
    have E1:=qh (HRE.o.below KG.o);have NF:=qh (HNF.o.below KG.o);have HLO:=qh KW.o.b.size
    go_upto_region 8 with (fail)
    refine FS.Jb 12 [] (FS.JH [(8,FS.Sp.made (fun x:FV=>x.v) (fun x w'=>EF w' w102.heap.size x (q*uq)) FV.blk),(11,FS.Sp.made (fun b:Nat=>Value.slice (some ⟨b,0,none⟩) 1 1) (fun b w'=>ZI w' w102.heap.size b (t.m.mul um) (q*uq)) (fun _ _=>False))])
     (fun w'=>Below w102.heap.size w102 w') (by kernel_rfl) (by kernel_rfl) (by kernel_rfl)
     (FS.Jd (FS.Sp.Jg _ (fun _ _ _ h _ hk=>h.kept hk) (FS.JM (by kernel_rfl))) (FS.Jd (FS.Sp.Qd _ V7 (fun _ _ _ h hs=>h.rows hs) (by kernel_rfl) (FS.JM (by kernel_rfl))) (FS.Jk))) (fun _ _ h hb=>h.trans (hb.mono h.size)) (zk.drew) ?_
    simp only[zu,zi,ze,zx,zy,zv,zw]
    iterate 8
     refine FS.Jc rfl rfl rfl ?_ (fun w' hw'=>?_) ?_;rotate_left
     ·have hb':=hw'.world;obtain⟨hs0,hs1,hs2,hs3,hs4,hs5,hs6,hs7⟩:=(E1.o.below hb').eight;have hs0:=(B3.o.bl hb').ce 0;have hs1:=(B3.o.bl hb').ce 1;have hs2:=(B3.o.bl hb').ce 2;have hs3:=(B3.o.bl hb').ce 3;have hs4:=(B3.o.bl hb').ce 4;have hs5:=(B3.o.bl hb').ce 5;have hs6:=(B3.o.bl hb').ce 6;have hs7:=(B3.o.bl hb').ce 7;have hsf:=(B3.o.bl hb').fz;have hsl:=(B3.o.bl hb').lt;clear hw';go_simp
      try rfl
     conv=>arg 10;simp only[Act.put,zq0,zq1,zq2]
    refine FS.Je rfl rfl rfl (fun w' hw'=>?_) ?_
    ·have hb':=hw'.world;refine FS.Jn (FS.PM (fun x:FV=>x.v) (fun x w'=>EF w' w102.heap.size x (q*uq)) FV.blk w'.heap.size) ?_ (fun _ _ h=>h.post (fun _ _=>FV.inj));go_simp;have CT:=(show Calls Tryz.prog 81 #[.agg #[.bool t.c.t.s,.slice t.c.t.a t.c.t.n t.c.t.c,.bool t.c.l.s,.slice t.c.l.a t.c.l.n t.c.l.c],.agg #[.bool y.t.s,.slice y.t.a y.t.n y.t.c,.bool y.l.s,.slice y.l.a y.l.n y.l.c]] w' _ from rmulV (x:=t.c) (y:=y) (NF.o.below hb').any HLF.o (NU.o.below hb').any HLU.o);refine CT.mono ?_;rintro e w'' ⟨za,rfl,ho,hb⟩;exact⟨_,rfl,⟨za,rfl,ho.mono hb'.size,ho.Q7⟩,hb⟩
    rintro _ ⟨y8,rfl⟩
    conv=>arg 10;simp only[Act.put,zq0,zq1,zq2]
    iterate 2
     refine FS.Jc rfl rfl rfl ?_ (fun w' hw'=>?_) ?_;rotate_left
     ·have hb':=hw'.world;have hs0:=(BX101.o.bl hb').ce 0;have hs1:=(BX101.o.bl hb').ce 1;have hs2:=(BX101.o.bl hb').ce 2;have hs3:=(BX101.o.bl hb').ce 3;have hsf:=(BX101.o.bl hb').fz;have hsl:=(BX101.o.bl hb').lt;clear hw';go_simp
      try rfl
     conv=>arg 10;simp only[Act.put,zq0,zq1,zq2]
    refine FS.Je rfl rfl rfl (fun w' hw'=>?_) ?_
    ·have hb':=hw'.world;refine FS.Jn (FS.PM (fun b:Nat=>Value.slice (some ⟨b,0,none⟩) 1 1) (fun b w'=>ZI w' w102.heap.size b (t.m.mul um) (q*uq)) (fun _ _=>False) w'.heap.size) ?_ (fun _ _ h=>h.post (fun _ _ h=>by cases h;rfl));go_simp;have f8:=FS.JX (val:=(fun x:FV=>x.v)) (Φ:=fun x w'=>EF w' w102.heap.size x (q*uq)) (fun _ _=>FV.inj) (hw'.jaz 10 8 (by kernel_rfl) (by kernel_rfl));exact⟨⟨w'.heap.size,rfl,⟨⟨y8,Bxs.new w' _ (TV.cells ⟨y8,(t.m.mul um)⟩),f8.alloc _⟩⟩,fun _ h=>False.elim h⟩,zk.alloc zj _⟩
    rintro _ ⟨y11,rfl⟩
    conv=>arg 10;simp only[Act.put,zq0,zq1,zq2]
    refine FS.Jm (fun w201 hb hF=>?_);obtain⟨⟨yy204,hB,hE⟩⟩:=FS.JX (val:=(fun b:Nat=>Value.slice (some ⟨b,0,none⟩) 1 1)) (Φ:=fun b w'=>ZI w' w102.heap.size b (t.m.mul um) (q*uq)) (fun _ _ h=>by cases h;rfl) (hF.all 11);have NB202:=qh hB;have NE203:=qh hE;clear hB hE;clear hF;have NF:=qh (NF.o.below hb);have NU:=qh (NU.o.below hb);have ERR:=qh (ERR.o.below hb);have KW:=qh (KW.o.below hb);have B3:=qh (B3.o.bl hb);have BX101:=qh (BX101.o.bl hb);have KG:=qk KG hb;clear hb;go_wp2_with (first | (at_builtin;refine Ql (t:=⟨yy204,(t.m.mul um)⟩) rfl _ _ rfl rfl ERR.o (by have:=HOL.o;have:=HZN.o;omega) KW.o.b.size rfl NB202.o (NE203.o.mono HLO.o) rfl ?_))
    intro z9 w9 her9 hb9;obtain⟨za9,zn9,zc9⟩:=z9;have ER9:=qh her9;have HB9:=qh hb9;clear her9 hb9;have ek1:IntKind.i64.wrap ((k:Int)+1)=(k:Int)+1:=IntWalk.i64_in _ (by have:=HKL.o;have:=HZN.o;omega);go_wp2_with fail
    go_roundw
    case rel =>
     refine⟨k+1,⟨za9,zn9,zc9⟩,L++[(⟨yy204,t.m.mul um⟩,q*uq)],rfl,rfl,HKL.o,ER9.o,?_,fun v hv=>?_,KW.o.b.trans HB9.o⟩
     ·rw[List.map_append,HL.o,List.take_add_one,HTP.o,List.map_append];rfl
     ·rw[List.take_add_one,HTP.o] at hv
      rcases List.mem_append.1 hv with hv | hv
      ·exact HAS.o v hv
      ·obtain rfl:v=(t.m,q):=by simpa using hv
       exact HSM.o
    case measure=>simp[intOf];have:=HKL.o;omega
   ·have HSM:=qh hs;clear hs
    go_upto_region 5 with (fail)
    refine FS.Jb 13 [(12,11)] (FS.JH [(7,FS.Sp.know (.tuple #[.agg #[.int .u16 0,.int .u16 0,.int .u16 0,.int .u16 0],.int .i64 3])),(11,FS.Sp.box 69 4 wr.heap.size)])
     (fun w'=>Below wr.heap.size wr w') (by kernel_rfl) (by kernel_rfl) (by kernel_rfl)
     (FS.Jd (FS.Sp.Jl _ _) (FS.Jd (FS.Sp.Yc _ _ _ _) (FS.Jk))) (fun _ _ h hb=>h.trans (hb.mono h.size)) (zk.drew) ?_
    simp only[zu,zi,ze,zx,zy,zv,zw]
    iterate 7
     refine FS.Jc rfl rfl rfl ?_ (fun w' hw'=>?_) ?_;rotate_left
     ·have hb':=hw'.world;obtain⟨hs0,hs1,hs2,hs3,hs4,hs5,hs6,hs7⟩:=(E1.o.below hb').eight;have hs0:=(B3.o.bl hb').ce 0;have hs1:=(B3.o.bl hb').ce 1;have hs2:=(B3.o.bl hb').ce 2;have hs3:=(B3.o.bl hb').ce 3;have hs4:=(B3.o.bl hb').ce 4;have hs5:=(B3.o.bl hb').ce 5;have hs6:=(B3.o.bl hb').ce 6;have hs7:=(B3.o.bl hb').ce 7;have hsf:=(B3.o.bl hb').fz;have hsl:=(B3.o.bl hb').lt;clear hw';go_simp
      try rfl
     conv=>arg 10;simp only[Act.put,zq0,zq1,zq2]
    refine FS.Je rfl rfl rfl (fun w' hw'=>?_) ?_
    ·have hb':=hw'.world;refine FS.Jn (FS.PK (.tuple #[.agg #[.int .u16 0,.int .u16 0,.int .u16 0,.int .u16 0],.int .i64 3])) ?_ (fun _ _ h=>h.post);go_simp;have CT:=(show Calls Tryz.prog 236 #[.agg #[.int .u16 t.m.x,.int .u16 t.m.y,.int .u16 t.m.z,.int .u16 t.m.t],.agg #[.int .u16 um.x,.int .u16 um.y,.int .u16 um.z,.int .u16 um.t]] w' _ from jea t.m um w' HST.o HSU.o HSM.o);refine CT.mono ?_;rintro e w'' ⟨rfl,hb⟩;exact⟨_,rfl,rfl,hb⟩
    rintro _ rfl
    conv=>arg 10;simp only[Act.put,zq0,zq1,zq2]
    iterate 3
     refine FS.Jc rfl rfl rfl ?_ (fun w' hw'=>?_) ?_;rotate_left
     ·have hb':=hw'.world;skip;clear hw';go_simp
      try rfl
     conv=>arg 10;simp only[Act.put,zq0,zq1,zq2]
    refine FS.Je rfl rfl rfl (fun w' hw'=>?_) ?_
    ·have hb':=hw'.world;refine FS.Jn (FS.PB 69 4 wr.heap.size w'.heap.size) ?_ (fun _ _ h=>h.post);go_simp;exact⟨FS.PB.new _ rfl hb'.size,zk.alloc zj _⟩
    rintro _ ⟨y11,rfl⟩
    conv=>arg 10;simp only[Act.put,zq0,zq1,zq2]
    refine FS.Ub rfl rfl 11 rfl rfl rfl rfl (fun _=>Iff.rfl) (fun w' hw'=>?_) ?_
    ·have hb':=hw'.world;have hX:=FS.VW (hw'.fact 11 (by kernel_rfl));obtain⟨c0,c1,c2,c3,hB⟩:=shp4 hX.1;have m0:=hB.ce 0;have m1:=hB.ce 1;have m2:=hB.ce 2;have m3:=hB.ce 3;have mf:=hB.fz;have ml:=hB.lt;refine FS.Uc ?_ (store4 hb' hX.2 hB (.int .u16 0) (.int .u16 0) (.int .u16 0) (.int .u16 0));clear hw';go_simp
     try rfl
    conv=>arg 10;simp only[Act.put,zq0,zq1,zq2]
    refine FS.Jm (fun w102 hb hF=>?_);have BX101:=qh (show Bxs w102 y11 69 [.int .u16 0,.int .u16 0,.int .u16 0,.int .u16 0] from Vn (hF.all 12));clear hF;have NU:=qh (NU.o.below hb);have ERR:=qh (ERR.o.below hb);have KW:=qh (KW.o.below hb);have B3:=qh (B3.o.bl hb);have KG:=qk KG hb;clear hb;go_wp2_with fail
    go_ret2;exact Or.inr ⟨rfl,⟨_,List.mem_of_getElem? HTP.o,HSM.o⟩,KG.o⟩
  ·have HKE:=qh (show k=zn by have:=HKZ.o;omega)
   have hge:¬((k:Int)<(zn:Int)):=by omega
   clear hkl;go_wp2_with fail
   go_ret2;have hall:P.take k=P:=List.take_of_length_le (by rw[HKE.o,HPL.o];exact zj);have hL:=HL.o;have hsm:=HAS.o;rw[hall] at hL hsm;have hm:=U1 (m:=um) FZ.o.canon HZU.o;refine Or.inl ⟨⟨oa,on,oc⟩,rfl,fun a b h=>hsm (a,b) h,⟨⟨L,ERR.o.mono HLW.o,by rw[hL,hm]⟩,Xc _ _,fun v hv=>?_⟩,KG.o⟩;rw[hm] at hv;obtain⟨u,hu,rfl⟩:=List.mem_map.1 hv;exact hsm u hu
theorem jhi (x:PV) (P:List Tm) (y:FV) (um:Mo) (uq:Rat) (w:World) (hx:KP w x P) (hq:∀ t∈P,LQ t.2 900000) (hxn:x.n<=1000000) (hy:KF w y uq) (hyl:LF y 900000) (hu:um.Small) (hz:uq≠0) (hs:∀ t∈P,(t.1.mul um).Small) :
  Calls Tryz.prog 156 #[x.v,TV.v ⟨y,um⟩] w fun e w'=>∃ z:PV,e=.returned (.tuple #[z.v,.int .i64 0])/\EP w' w.heap.size z (Xt P [(um,uq)])/\Below w.heap.size w w' :=
 (VD x P y um uq w hx hq hxn hy hyl hu hz).mono fun e w' h=>by
  rcases h with ⟨z,e1,-,h1,hb⟩ | ⟨-,⟨t,ht,h1⟩,-⟩
  ·exact⟨z,e1,h1,hb⟩
  ·exact absurd (hs t ht) h1
theorem jhj (x:PV) (P:List Tm) (y:FV) (um:Mo) (uq:Rat) (w:World) (hx:KP w x P) (hq:∀ t∈P,LQ t.2 900000) (hxn:x.n<=1000000) (hy:KF w y uq) (hyl:LF y 900000) (hu:um.Small) (hz:uq≠0) (hs:¬ ∀ t∈P,(t.1.mul um).Small) :
  Calls Tryz.prog 156 #[x.v,TV.v ⟨y,um⟩] w fun e w'=>e=.returned (.tuple #[.slice none 0 0,.int .i64 3])/\Below w.heap.size w w' :=
 (VD x P y um uq w hx hq hxn hy hyl hu hz).mono fun e w' h=>by
  rcases h with ⟨z,e1,h1,-,-⟩ | ⟨e1,-,hb⟩
  ·exact absurd h1 hs
  ·exact⟨e1,hb⟩
theorem infoPo:(Tryz.prog.info? 23).map (fun i=>(i.zero,i.size,i.bytes))=some (some (.slice none 0 0),1,24):=by kernel_rfl
abbrev OW (w:World) (lo:Nat) (v:Value) (Zs:List PV):Prop:=w.ownsRow lo 23 1 v Zs.length (Zs.map PV.v)
theorem OW.below {w w':World} {lo:Nat} {v:Value} {Zs:List PV} (h:OW w lo v Zs) (hb:Below w.heap.size w w'):OW w' lo v Zs:=by
 refine⟨h.1,h.2.imp id ?_⟩;rintro⟨g,cap,cur,hv,hlo,hg,h3⟩;exact⟨g,cap,cur,hv,hlo,(hb.block g (lt_of_block hg)).trans hg,h3⟩
theorem OW.mono {w:World} {lo lo':Nat} {v:Value} {Zs:List PV} (h:OW w lo v Zs) (hl:lo'<=lo):OW w lo' v Zs:=by
 refine⟨h.1,h.2.imp id ?_⟩;rintro⟨g,cap,cur,hv,hlo,hg,h3⟩;exact⟨g,cap,cur,hv,zm hl hlo,hg,h3⟩
theorem OW.own {w:World} {lo:Nat} {v:Value} {Zs:List PV} (h:OW w lo v Zs) {k:Nat} (hk:some k=v.ownBlock):lo<=k/\∃ cur,w.heap[k]?=some (.cells cur 23 (0,0)):=by
 rcases h.2 with ⟨hv,_⟩ | ⟨g,cap,cur,hv,hlo,hg,_⟩
 ·rw[hv] at hk;cases hk
 ·rw[hv] at hk;have hk:some k=some g:=hk
  cases hk
  exact⟨hlo,cur,hg⟩
theorem OW.cells {w:World} {lo:Nat} {v:Value} {Zs:List PV} (h:OW w lo v Zs):∃ a c,v=.slice a Zs.length c/\Zs.length<=c/\∀ i z,Zs[i]?=some z->∃ g,a=some ⟨g,0,none⟩/\w.cell? ⟨g,i,none⟩=some z.v:=by
 rcases h.2 with ⟨hv,h0⟩ | ⟨g,cap,cur,hv,hnc,_,hg,hl,hcs,htake⟩
 ·have hz:Zs=[]:=List.length_eq_zero_iff.1 h0;subst hz;exact⟨none,0,hv,zj,fun i b hi=>by simp at hi⟩
 ·refine⟨some ⟨g,0,none⟩,cap,hv,by omega,fun i z hi=>⟨g,rfl,?_⟩⟩;have hil:=(List.getElem?_eq_some_iff.1 hi).1;rw[cell_of_row _ _ _ _ _ _ ‹_›]
  have h1:(Zs.map PV.v)[i]?=some z.v:=by rw[List.getElem?_map,hi];rfl
  rw[<- htake,List.getElem?_take,if_pos (by omega),Array.getElem?_toList] at h1;exact h1
structure EQ (w:World) (lo lo2:Nat) (v:Value) (Rs:List (List Tm)):Prop where
 ex:∃ Zs:List PV,OW w lo2 v Zs/\Zs.length=Rs.length/\∀ (i:Nat) (z:PV) (R:List Tm),Zs[i]?=some z->Rs[i]?=some R->EP w lo z R
theorem EQ.nil (w:World) (lo lo2:Nat):EQ w lo lo2 (.slice none 0 0) []:=⟨[],World.ownsRow_nil _ _ _ _,rfl,fun i z R h=>by simp at h⟩
theorem EQ.below {w w':World} {lo lo2:Nat} {v:Value} {Rs:List (List Tm)} (h:EQ w lo lo2 v Rs) (hb:Below w.heap.size w w'):EQ w' lo lo2 v Rs:=by
 obtain⟨Zs,h1,h2,h3⟩:=h.ex;exact⟨Zs,h1.below hb,h2,fun i z R h4 h5=>(h3 i z R h4 h5).below hb⟩
theorem EQ.mono {w:World} {lo lo' lo2 lo2':Nat} {v:Value} {Rs:List (List Tm)} (h:EQ w lo lo2 v Rs) (hl:lo'<=lo) (hl2:lo2'<=lo2):EQ w lo' lo2' v Rs:=by
 obtain⟨Zs,h1,h2,h3⟩:=h.ex;exact⟨Zs,h1.mono hl2,h2,fun i z R h4 h5=>(h3 i z R h4 h5).mono hl⟩
theorem EQ.slice {w:World} {lo lo2:Nat} {v:Value} {Rs:List (List Tm)} (h:EQ w lo lo2 v Rs):∃ a c,v=.slice a Rs.length c:=by
 obtain⟨Zs,h1,h2,-⟩:=h.ex;obtain⟨a,c,e,-⟩:=h1.cells;exact⟨a,c,by rw[e,h2]⟩
theorem EQ.get {w:World} {lo lo2:Nat} {a:Option Addr} {n c:Nat} {Rs:List (List Tm)} (h:EQ w lo lo2 (.slice a n c) Rs) {i:Nat} (hi:i<Rs.length):∃ (g:Nat) (z:PV) (R:List Tm),a=some ⟨g,0,none⟩/\g<w.heap.size/\w.cell? ⟨g,i,none⟩=some z.v/\Rs[i]?=some R/\EP w lo z R:=by
 obtain⟨Zs,h1,h2,h3⟩:=h.ex;obtain⟨a',c',e,-,hc⟩:=h1.cells
 injection e with e1 e2 e3
 subst e1;obtain⟨z,hz⟩:∃ z,Zs[i]?=some z:=⟨_,List.getElem?_eq_getElem (by omega)⟩;obtain⟨R,hR⟩:∃ R,Rs[i]?=some R:=⟨_,List.getElem?_eq_getElem hi⟩;obtain⟨g,hg,hcell⟩:=hc i z hz;exact⟨g,z,R,hg,block_lt_of_cell hcell,hcell,hR,h3 i z R hz hR⟩
def rowS (T:TypeId):Bool:=T==23 || V7 T
structure NewS (w:World) (lo b:Nat) (R:List Tm):Prop where
 ex:∃ y:PV,Bxs w b 23 [y.v]/\EP w lo y R
theorem NewS.rows {w w':World} {lo b:Nat} {R:List Tm} (h:NewS w lo b R) (hs:∀ (b:Nat) (c:Array Value) (T:TypeId),w.heap[b]?=some (.cells c T (0,0))->rowS T=true->w'.heap[b]?=w.heap[b]?):NewS w' lo b R:=by
 obtain⟨y,h1,h2⟩:=h.ex;exact⟨y,(hs b _ _ h1 rfl).trans h1,h2.rows fun b c T h3 h4=>hs b c T h3 (by unfold rowS;rw[h4,Bool.or_true])⟩
theorem Ze {ops:Array Oper} {rest:List Oper} {oo:Oper} {ac:Act} {Q:Exit->Act->World->Prop} (hgd:oo.guard=none) (s x:Operand)
  (ho:oo.op=.call { callee:=.builtin .append,args:=#[s,x],argTypes:=#[74,74] })
  {w:World} {lo lo2:Nat} {v:Value} {Rs:List (List Tm)} (hs:ac.eval s=v) (h:EQ w lo lo2 v Rs) (hn:Rs.length<=1000000) (hb:lo2<=w.heap.size)
  {gs:Nat} {z:PV} {R:List Tm} {m c:Nat} (hx:ac.eval x=.slice (some ⟨gs,0,none⟩) m c) (hc:Bxs w gs 23 [z.v]) (hz:EP w lo z R) (hm:m=1)
  (hK:∀ (a:Option Addr) (n c':Nat) w',EQ w' lo lo2 (.slice a n c') (Rs++[R])->n=Rs.length+1->Below lo2 w w'->wpList Tryz.prog ops Q rest (ac.put oo.dst (.slice a n c')) w'):wpList Tryz.prog ops Q (oo :: rest) ac w:=by
 subst hm;obtain⟨Zs,h1,h2,h3⟩:=h.ex;obtain⟨i0,hi,hz0,hz1,hz2⟩:=info_parts infoPo;refine wpList_append_own _ hgd s x 74 ho lo2 23 i0 _ 1 24 Tryz.underlying74 hi hz0 hz1 hz2 rfl (by decide) v _ _ hs h1 ⟨gs,0,none⟩ 1 c [z.v] hx rfl (fun j u hj=>?_) (fun u hu=>by rw[List.mem_singleton.1 hu];rfl) ?_ ?_ hb ?_
 ·rw[Addr.add_lit,Nat.zero_add];exact hc.cell hj
 ·rw[h2];unfold maxLen;omega
 ·rw[h2];omega
 ·intro v' w' hown hg _
  have hr:OW w' lo2 v' (Zs++[z]):=by
   show w'.ownsRow _ _ _ _ _ _;rw[List.length_append,List.map_append];exact hown
  have hk:∀ (b:Nat) (c:Array Value) (T:TypeId),w.heap[b]?=some (.cells c T (0,0))->V7 T=true->w'.heap[b]?=w.heap[b]?:=fun b c T h9 hT=>hg.block b (lt_of_block h9) fun e=>by
   obtain⟨_,c2,h5⟩:=h1.own e;rw[h9] at h5
   have:T=23:=by have h6:=Option.some.inj h5;injection h6
   subst this;exact absurd hT (by decide)
  have hE:EQ w' lo lo2 v' (Rs++[R]):=⟨Zs++[z],hr,by rw[List.length_append,List.length_append,h2];rfl,fun i y S hy hS=>by
   by_cases hi:i<Zs.length
   ·rw[List.getElem?_append_left hi] at hy;rw[List.getElem?_append_left (by omega)] at hS;exact(h3 i y S hy hS).rows hk
   ·have hi2:=(List.getElem?_eq_some_iff.1 hy).1;rw[List.length_append] at hi2
    have hi3:i=Zs.length:=by simp at hi2;omega
    subst hi3;rw[List.getElem?_append_right zj,Nat.sub_self] at hy;rw[h2,List.getElem?_append_right zj,Nat.sub_self] at hS;have hy:some z=some y:=hy;have hS:some R=some S:=hS
    cases hy
    cases hS
    exact hz.rows hk⟩
  obtain⟨a,c',e⟩:=hE.slice;subst e;exact hK a _ c' w' hE (by rw[List.length_append];rfl) (zk.grown hg hb (fun g hg=>(h1.own hg.symm).1))
end Pol
end Go.Proofs.YtgkkbkoiaccmfaaGreatDoor
