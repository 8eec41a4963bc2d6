/-
  The walks of reckonerref04.Sub and reckonerref05.by.
-/
import Derived.Test.YtjcmanikkcfnmaaGreatDmP
set_option linter.unusedSimpArgs false
set_option linter.unusedVariables false
set_option maxHeartbeats 16000000
set_option maxRecDepth 100000
namespace Go.Proofs.YtjcmanikkcfnmaaGreat.Pol
open Go.RowKit Go.Sort Go.Proofs.YtjcmanikkcfnmaaGreat.Limb
theorem bxs_rowsE {w w':World} {b:Nat} {T:TypeId} {l:List Value} {row:TypeId→Bool} (h:Bxs w b T l) (hs:∀ (b:Nat) (c:Array Value) (T:TypeId),w.heap[b]?=some (.cells c T (0,0))→row T=true→w'.heap[b]?=w.heap[b]?) (ht:row T=true):Bxs w' b T l:=(hs b _ T h ht).trans h
def lenV:Value→Nat
 | .slice _ n _=>n
 | _=>0
theorem KP.cons {w:World} {a:Option Addr} {n c:Nat} {P:List Tm} (h:KP w ⟨a,n,c⟩ P) (hn:0<n):∃ (t:TV) (q:Rat) (b o:Nat) (P2:List Tm),a=some ⟨b,o,none⟩∧P=(t.m,q) :: P2∧RE w b o 0 t∧KF w t.c q∧KP w ⟨if c=1 then some ⟨b,o,none⟩ else some ⟨b,o+8,none⟩,n-1,c-1⟩ P2:=by
 obtain⟨L,h1,h2,h3,h4⟩:=h.ex;have h2:L.length=n:=h2
 match L,h1,h2,h3,h4 with
 | [],_,h2,_,_=>simp at h2;omega
 | e :: r,h1,h2,h3,h4 =>
  obtain⟨b,o,ha,hc⟩:=(show RT w a ((e :: r).map Prod.fst) from h1).ex (by simp);have hle:n≤c:=h.le;have hcn:Canon P:=h.canon;have hsm:=h.small;rw[← h4] at hcn hsm;have hlen:(e :: r).length=n:=h2;rw[List.length_cons] at hlen;refine⟨e.1,e.2,b,o,r.map tm,ha,h4.symm,⟨block_lt_of_cell (hc 0 e.1 rfl 0 _ rfl),fun j v hj=>hc 0 e.1 rfl j v hj⟩,h3 e (List.mem_cons_self ..),⟨r,⟨fun hn0=>⟨b,o+8,?_,fun i t hi j v hj=>?_⟩⟩,?_,fun f hf=>h3 f (List.mem_cons_of_mem _ hf),rfl⟩,?_,hcn.tail,fun t ht=>hsm t (List.mem_cons_of_mem _ ht)⟩
  ·refine if_neg fun hc1=>hn0 ?_
   have:r.length=0:=by omega
   rw[List.length_eq_zero_iff.1 this]
   rfl
  ·have h5:=hc (i+1) t (by simpa using hi) j v hj;rw[show o+(i+1)*8+j=o+8+i*8+j by omega] at h5;exact h5
  ·show r.length=n-1;omega
  ·show n-1≤c-1;omega
theorem add_small {P Q:List Tm} (h1:∀ t∈P,t.1.Small) (h2:∀ t∈Q,t.1.Small):∀ t∈addP P Q,t.1.Small:=fun t ht=>by
 rcases addP_mo ht with ⟨v,hv,e⟩ | ⟨v,hv,e⟩
 ·rw[← e];exact h1 v hv
 ·rw[← e];exact h2 v hv
theorem key_lt0 {a b:Mo} (ha:a.Small) (hb:b.Small) (h:a.lt b):Mono.cmpZ (keyO 0 a) (keyO 0 b) = -1:=Mono.cmpZ_lt ((lt_key0 ha hb).1 h)
theorem key_gt0 {a b:Mo} (ha:a.Small) (hb:b.Small) (h:b.lt a):Mono.cmpZ (keyO 0 a) (keyO 0 b)=1:=Mono.cmpZ_gt ((lt_key0 hb ha).1 h)
theorem radd_any (x y:PV) (P Q:List Tm) (w:World) (hx:AP w x P) (hy:AP w y Q) (hp:∀ t∈P,LQ t.2 400000) (hq:∀ t∈Q,LQ t.2 400000) (hxn:x.n≤400000000) (hyn:y.n≤400000000) :
  Calls Tryz.prog 23 #[x.v,y.v] w fun e w'=>∃ z:PV,e=.returned z.v∧EP w' w.heap.size z (addP P Q)∧Below w.heap.size w w':=by
 obtain⟨⟨x1,n1,c1⟩,hxz,hxm,hcx⟩:=rfit_w hx (fun t ht=>(hp t ht).up (by omega)) (by omega);obtain⟨⟨y1,n2,c2⟩,hyz,hym,hcy⟩:=rfit_w hy (fun t ht=>(hq t ht).up (by omega)) (by omega);obtain⟨xa,xn,xc⟩:=x;obtain⟨ya,yn,yc⟩:=y;have CX:=qh (hcx w (Below.refl _ _));have HCY:=qh hcy;have HX:=qh hxz;have HY:=qh hyz;have HLP:=qh hp;have HLQ:=qh hq;have HSP:=qh (show ∀ t∈P,t.1.Small from hxz.small);have HSQ:=qh (show ∀ t∈Q,t.1.Small from hyz.small);have HN1:=qh (show n1≤400000000 from Nat.le_trans hxm hxn);have HN2:=qh (show n2≤400000000 from Nat.le_trans hym hyn);obtain⟨nn,hnn⟩:∃ n,n=n1+n2:=⟨_,rfl⟩;have HNE:=qh hnn;have HNN:=qh (show nn≤800000000 by have:=HN1.out;have:=HN2.out;omega);clear hx hy hp hq hxn hyn hxz hyz hxm hym hcx hcy hnn;change Calls Tryz.prog 23 #[.slice xa xn xc,.slice ya yn yc] w _;go_enter Tryz.func23,Tryz.ntmps23;go_wp2_with fail
 with_reducible refine CX.out.mono ?_
 rintro e w1 ⟨he,hb⟩;obtain rfl:e=.returned (.slice x1 n1 c1):=he;have CY:=qh (HCY.out w1 hb);have KG:=qh hb;clear hb CX HCY;go_wp2_with fail
 with_reducible refine CY.out.mono ?_
 rintro e V ⟨he,hb⟩;obtain rfl:e=.returned (.slice y1 n2 c2):=he;have KG:=qk KG hb;have HLW:=qh KG.out.size;clear hb CY;go_wp2_with fail
 go_loopw [0,1,5] (fun p q o wr=>∃ (P' Q':List Tm) (x y z:PV) (L:List TE),p=x.v∧q=y.v∧o=z.v∧KP w x P'∧KP w y Q'∧(∀ t∈P',t∈P)∧(∀ t∈Q',t∈Q)∧ER wr V.heap.size z.v L∧L.map tm++addP P' Q'=addP P Q∧L.length+x.n+y.n≤nn∧Below V.heap.size V wr) (fun p q _ _=>lenV p+lenV q)
 case atStart=>exact⟨P,Q,⟨x1,n1,c1⟩,⟨y1,n2,c2⟩,⟨none,0,0⟩,[],rfl,rfl,rfl,HX.out,HY.out,fun _ h=>h,fun _ h=>h,ER.nil,rfl,by have:=HNE.out;show 0+n1+n2≤nn;omega,Below.refl _ _⟩
 case round =>
  obtain⟨P',Q',⟨xa,xn,xc⟩,⟨ya,yn,yc⟩,⟨oa,on,oc⟩,L,hpv,hqv,ho,hkp,hkq,hmp,hmq,her,hall,hol,hb0⟩:=hrel;obtain rfl:_=Value.slice xa xn xc:=hpv;obtain rfl:_=Value.slice ya yn yc:=hqv;obtain rfl:_=Value.slice oa on oc:=ho;have HKP:=qh hkp;have HKQ:=qh hkq;have HMP:=qh hmp;have HMQ:=qh hmq;have ERR:=qh her;have HALL:=qh hall;have HOL:=qh (show L.length+xn+yn≤nn from hol);have KW:=qh (show Bt V wr from⟨hb0⟩);have KG:=qk KG hb0;have HXL:=qh (show xn=P'.length from hkp.len);have HYL:=qh (show yn=Q'.length from hkq.len);clear hkp hkq hmp hmq her hall hol hb0
  by_cases hx0:xn=0
  ·have HX0:=qh (show P'=[] from List.length_eq_zero_iff.1 (by rw[← HXL.out];exact hx0))
   have hx1:¬((xn:Int)>0):=by omega
   have hx2:¬((0:Int)<(xn:Int)):=hx1
   have hx3:(xn:Int)=0:=by omega
   by_cases hy0:yn=0
   ·have hy1:¬((yn:Int)>0):=by omega
    have hy2:¬((0:Int)<(yn:Int)):=hy1;have HY0:=qh (show Q'=[] from List.length_eq_zero_iff.1 (by rw[← HYL.out];exact hy0));clear hx0 hy0;go_wp2_with fail
    go_ret;refine⟨⟨oa,on,oc⟩,rfl,⟨⟨L,ERR.out.mono HLW.out,?_⟩,addP_canon _ _,add_small HSP.out HSQ.out⟩,KG.out⟩;have h:=HALL.out;rw[HX0.out,HY0.out,merge_nil Canon.nil,List.append_nil] at h;exact h
   ·have HYP:=qh (Nat.pos_of_ne_zero hy0);obtain⟨u,r,qb,qo,Q2,rfl,hqe,hre,hnf,hq2⟩:=HKQ.out.cons HYP.out
    have hy1:(yn:Int)>0:=by have:=HYP.out;omega
    have hy2:(0:Int)<(yn:Int):=hy1
    have hy3:(1:Int)≤(yn:Int):=by have:=HYP.out;omega
    have hy4:(yn:Int)≤(yc:Int):=by have h:yn≤yc:=HKQ.out.le;omega
    have hy5:1≤yn:=HYP.out;have hy6:yn≤yc:=HKQ.out.le;have hy8:0<yn:=HYP.out;have HQE:=qh hqe;have HRF:=qh hre;have HQ2:=qh hq2;have E2:=qh (hre.below KG.out);have NG:=qh (hnf.below KG.out);have HMU:=qh (show(u.m,r)∈Q from HMQ.out _ (by rw[hqe];exact List.mem_cons_self ..));have HLU4:=qh (show LQ r 400000 from HLQ.out _ HMU.out);have HLU:=qh (show LQ r 900000 from HLU4.out.up (by omega));have HLG:=qh (show LF u.c 900000 from hnf.len HLU.out (Nat.le_refl _));have HNF:=qh hnf;have HMG:=qh (show addP P' Q'=(u.m,r) :: addP P' Q2 by rw[HX0.out,HQE.out];exact merge_lt (HQE.out▸HKQ.out.canon) fun _ h=>(by cases h));clear hx0 hy0 hqe hre hnf hq2
    go_upto_region 21 with (fail)
    have HLO:=qh KW.out.b.size
    go_upto_region 21 with (fail)
    refine FS.wp_region_fresh 12 [] (FS.spOf [(5,FS.Sp.made (fun x:FV=>x.v) (fun x w'=>EF w' wr.heap.size x r) FV.blk),(11,FS.Sp.made (fun b:Nat=>Value.slice (some ⟨b,0,none⟩) 1 1) (fun b w'=>NewT w' wr.heap.size b u.m r) (fun _ _=>False))])
     (fun w'=>Below wr.heap.size wr w') (by kernel_rfl) (by kernel_rfl) (by kernel_rfl)
     (FS.spOf_cons (FS.Sp.made_keeps _ (fun _ _ _ h _ hk=>h.kept hk) (FS.notTaken (by kernel_rfl))) (FS.spOf_cons (FS.Sp.made_keepsR _ rowE (fun _ _ _ h hs=>h.rows hs) (by kernel_rfl) (FS.notTaken (by kernel_rfl))) (FS.spOf_nil))) (fun _ _ h hb=>h.trans (hb.mono h.size)) ((Below.refl _ _).drew) ?_
    simp only[List.append_eq,List.cons_append,List.nil_append,List.take_succ_cons,List.take_zero,List.drop_succ_cons,List.drop_zero]
    iterate 5
     refine FS.wpF_reads rfl rfl rfl ?_ (fun w' hw'=>?_) ?_;rotate_left
     ·have hb':=hw'.world;obtain⟨hs0,hs1,hs2,hs3,hs4,hs5,hs6,hs7⟩:=(E2.out.below hb').eight;simp only[Nat.zero_mul,Nat.add_zero] at hs0 hs1 hs2 hs3 hs4 hs5 hs6 hs7;clear hw';go_simp
      try rfl
     conv=>arg 10;simp only[Act.put,zq0,zq1,zq2]
    refine FS.wpF_spec rfl rfl rfl (fun w' hw'=>?_) ?_
    ·have hb':=hw'.world;refine FS.gives_of (FS.PM (fun x:FV=>x.v) (fun x w'=>EF w' wr.heap.size x r) FV.blk w'.heap.size) ?_ (fun _ _ h=>h.post (fun _ _=>FV.inj));go_simp;have CT:=(show Calls Tryz.prog 48 #[.agg #[.bool u.c.t.s,.slice u.c.t.a u.c.t.n u.c.t.c,.bool u.c.l.s,.slice u.c.l.a u.c.l.n u.c.l.c]] w' _ from rtwinV (c:=u.c) (NG.out.below hb').any HLG.out HLU.out);refine CT.mono ?_;rintro e w'' ⟨za,rfl,ho,hb⟩;exact⟨_,rfl,⟨za,rfl,ho.mono hb'.size,ho.blks⟩,hb⟩
    rintro _ ⟨y5,rfl⟩
    conv=>arg 10;simp only[Act.put,zq0,zq1,zq2]
    iterate 5
     refine FS.wpF_reads rfl rfl rfl ?_ (fun w' hw'=>?_) ?_;rotate_left
     ·have hb':=hw'.world;obtain⟨hs0,hs1,hs2,hs3,hs4,hs5,hs6,hs7⟩:=(E2.out.below hb').eight;simp only[Nat.zero_mul,Nat.add_zero] at hs0 hs1 hs2 hs3 hs4 hs5 hs6 hs7;clear hw';go_simp
      try rfl
     conv=>arg 10;simp only[Act.put,zq0,zq1,zq2]
    refine FS.wpF_spec rfl rfl rfl (fun w' hw'=>?_) ?_
    ·have hb':=hw'.world;refine FS.gives_of (FS.PM (fun b:Nat=>Value.slice (some ⟨b,0,none⟩) 1 1) (fun b w'=>NewT w' wr.heap.size b u.m r) (fun _ _=>False) w'.heap.size) ?_ (fun _ _ h=>h.post (fun _ _ h=>by cases h;rfl));go_simp;have f5:=FS.made_of (val:=(fun x:FV=>x.v)) (Φ:=fun x w'=>EF w' wr.heap.size x r) (fun _ _=>FV.inj) (hw'.fact2 10 5 (by kernel_rfl) (by kernel_rfl));exact⟨⟨w'.heap.size,rfl,⟨⟨y5,Bxs.new w' _ (TV.cells ⟨y5,u.m⟩),f5.alloc _⟩⟩,fun _ h=>False.elim h⟩,(Below.refl _ _).alloc (Nat.le_refl _) _⟩
    rintro _ ⟨y11,rfl⟩
    conv=>arg 10;simp only[Act.put,zq0,zq1,zq2]
    refine FS.wpF_nil (fun w701 hb hF=>?_);obtain⟨⟨yy704,hB,hE⟩⟩:=FS.made_of (val:=(fun b:Nat=>Value.slice (some ⟨b,0,none⟩) 1 1)) (Φ:=fun b w'=>NewT w' wr.heap.size b u.m r) (fun _ _ h=>by cases h;rfl) (hF.all 11);have NB702:=qh hB;have NE703:=qh hE;clear hB hE;clear hF;have NG:=qh (NG.out.below hb);have ERR:=qh (ERR.out.below hb);have KW:=qh (KW.out.below hb);have KG:=qk KG hb;clear hb;go_wp2_with (first | (at_builtin;refine wpList_pushE (t:=⟨yy704,u.m⟩) rfl _ _ rfl rfl ERR.out (by have:=HOL.out;have:=HNN.out;omega) KW.out.b.size rfl NB702.out (NE703.out.mono HLO.out) rfl ?_))
    intro z9 w9 her9 hb9;obtain⟨za9,zn9,zc9⟩:=z9;have ER9:=qh her9;have HB9:=qh hb9;clear her9 hb9;go_wp2_with fail
    go_roundw
    case rel =>
     refine⟨P',Q2,⟨xa,xn,xc⟩,⟨if yc=1 then some ⟨qb,qo,none⟩ else some ⟨qb,qo+8,none⟩,yn-1,yc-1⟩,⟨za9,zn9,zc9⟩,L++[(⟨yy704,u.m⟩,r)],rfl,rfl,rfl,HKP.out,HQ2.out,HMP.out,fun v hv=>HMQ.out v (by rw[HQE.out];exact List.mem_cons_of_mem _ hv),ER9.out,?_,?_,KW.out.b.trans HB9.out⟩
     ·rw[List.map_append,List.append_assoc,← HALL.out];refine congrArg _ ?_;rw[HMG.out]
      rfl
     ·rw[List.length_append,List.length_singleton];have:=HOL.out;have:=HYP.out;show L.length+1+xn+(yn-1)≤nn;omega
    case measure=>simp[lenV];have:=HYP.out;omega
  ·have HXP:=qh (Nat.pos_of_ne_zero hx0);obtain⟨t,q,pb,po,P2,rfl,hpe,hre,hnf,hp2⟩:=HKP.out.cons HXP.out
   have hx1:(xn:Int)>0:=by have:=HXP.out;omega
   have hx2:(0:Int)<(xn:Int):=hx1
   have hx3:¬((xn:Int)=0):=by omega
   have hx4:(1:Int)≤(xn:Int):=by have:=HXP.out;omega
   have hx5:(xn:Int)≤(xc:Int):=by have h:xn≤xc:=HKP.out.le;omega
   have hx6:1≤xn:=HXP.out;have hx7:xn≤xc:=HKP.out.le;have hx8:0<xn:=HXP.out;have HPE:=qh hpe;have HRE:=qh hre;have HP2:=qh hp2;have E1:=qh (hre.below KG.out);have NF:=qh (hnf.below KG.out);have HMT:=qh (show(t.m,q)∈P from HMP.out _ (by rw[hpe];exact List.mem_cons_self ..));have HLT4:=qh (show LQ q 400000 from HLP.out _ HMT.out);have HLT:=qh (show LQ q 900000 from HLT4.out.up (by omega));have HLF:=qh (show LF t.c 900000 from hnf.len HLT.out (Nat.le_refl _));have HST:=qh (show t.m.Small from HSP.out _ HMT.out);have HNT:=qh hnf;clear hx0 hpe hre hnf hp2
   by_cases hy0:yn=0
   ·have hy1:(yn:Int)=0:=by omega
    have HY0:=qh (show Q'=[] from List.length_eq_zero_iff.1 (by rw[← HYL.out];exact hy0));have HMG:=qh (show addP P' Q'=(t.m,q) :: addP P2 Q' by rw[HY0.out,HPE.out];exact merge_gt (HPE.out▸HKP.out.canon) fun _ h=>(by cases h));clear hy0
    go_upto_region 18 with (fail)
    have HLO:=qh KW.out.b.size
    go_upto_region 18 with (fail)
    refine FS.wp_region_fresh 12 [] (FS.spOf [(5,FS.Sp.made (fun x:FV=>x.v) (fun x w'=>EF w' wr.heap.size x q) FV.blk),(11,FS.Sp.made (fun b:Nat=>Value.slice (some ⟨b,0,none⟩) 1 1) (fun b w'=>NewT w' wr.heap.size b t.m q) (fun _ _=>False))])
     (fun w'=>Below wr.heap.size wr w') (by kernel_rfl) (by kernel_rfl) (by kernel_rfl)
     (FS.spOf_cons (FS.Sp.made_keeps _ (fun _ _ _ h _ hk=>h.kept hk) (FS.notTaken (by kernel_rfl))) (FS.spOf_cons (FS.Sp.made_keepsR _ rowE (fun _ _ _ h hs=>h.rows hs) (by kernel_rfl) (FS.notTaken (by kernel_rfl))) (FS.spOf_nil))) (fun _ _ h hb=>h.trans (hb.mono h.size)) ((Below.refl _ _).drew) ?_
    simp only[List.append_eq,List.cons_append,List.nil_append,List.take_succ_cons,List.take_zero,List.drop_succ_cons,List.drop_zero]
    iterate 5
     refine FS.wpF_reads rfl rfl rfl ?_ (fun w' hw'=>?_) ?_;rotate_left
     ·have hb':=hw'.world;obtain⟨hs0,hs1,hs2,hs3,hs4,hs5,hs6,hs7⟩:=(E1.out.below hb').eight;simp only[Nat.zero_mul,Nat.add_zero] at hs0 hs1 hs2 hs3 hs4 hs5 hs6 hs7;clear hw';go_simp
      try rfl
     conv=>arg 10;simp only[Act.put,zq0,zq1,zq2]
    refine FS.wpF_spec rfl rfl rfl (fun w' hw'=>?_) ?_
    ·have hb':=hw'.world;refine FS.gives_of (FS.PM (fun x:FV=>x.v) (fun x w'=>EF w' wr.heap.size x q) FV.blk w'.heap.size) ?_ (fun _ _ h=>h.post (fun _ _=>FV.inj));go_simp;have CT:=(show Calls Tryz.prog 48 #[.agg #[.bool t.c.t.s,.slice t.c.t.a t.c.t.n t.c.t.c,.bool t.c.l.s,.slice t.c.l.a t.c.l.n t.c.l.c]] w' _ from rtwinV (c:=t.c) (NF.out.below hb').any HLF.out HLT.out);refine CT.mono ?_;rintro e w'' ⟨za,rfl,ho,hb⟩;exact⟨_,rfl,⟨za,rfl,ho.mono hb'.size,ho.blks⟩,hb⟩
    rintro _ ⟨y5,rfl⟩
    conv=>arg 10;simp only[Act.put,zq0,zq1,zq2]
    iterate 5
     refine FS.wpF_reads rfl rfl rfl ?_ (fun w' hw'=>?_) ?_;rotate_left
     ·have hb':=hw'.world;obtain⟨hs0,hs1,hs2,hs3,hs4,hs5,hs6,hs7⟩:=(E1.out.below hb').eight;simp only[Nat.zero_mul,Nat.add_zero] at hs0 hs1 hs2 hs3 hs4 hs5 hs6 hs7;clear hw';go_simp
      try rfl
     conv=>arg 10;simp only[Act.put,zq0,zq1,zq2]
    refine FS.wpF_spec rfl rfl rfl (fun w' hw'=>?_) ?_
    ·have hb':=hw'.world;refine FS.gives_of (FS.PM (fun b:Nat=>Value.slice (some ⟨b,0,none⟩) 1 1) (fun b w'=>NewT w' wr.heap.size b t.m q) (fun _ _=>False) w'.heap.size) ?_ (fun _ _ h=>h.post (fun _ _ h=>by cases h;rfl));go_simp;have f5:=FS.made_of (val:=(fun x:FV=>x.v)) (Φ:=fun x w'=>EF w' wr.heap.size x q) (fun _ _=>FV.inj) (hw'.fact2 10 5 (by kernel_rfl) (by kernel_rfl));exact⟨⟨w'.heap.size,rfl,⟨⟨y5,Bxs.new w' _ (TV.cells ⟨y5,t.m⟩),f5.alloc _⟩⟩,fun _ h=>False.elim h⟩,(Below.refl _ _).alloc (Nat.le_refl _) _⟩
    rintro _ ⟨y11,rfl⟩
    conv=>arg 10;simp only[Act.put,zq0,zq1,zq2]
    refine FS.wpF_nil (fun w801 hb hF=>?_);obtain⟨⟨yy804,hB,hE⟩⟩:=FS.made_of (val:=(fun b:Nat=>Value.slice (some ⟨b,0,none⟩) 1 1)) (Φ:=fun b w'=>NewT w' wr.heap.size b t.m q) (fun _ _ h=>by cases h;rfl) (hF.all 11);have NB802:=qh hB;have NE803:=qh hE;clear hB hE;clear hF;have NF:=qh (NF.out.below hb);have ERR:=qh (ERR.out.below hb);have KW:=qh (KW.out.below hb);have KG:=qk KG hb;clear hb;go_wp2_with (first | (at_builtin;refine wpList_pushE (t:=⟨yy804,t.m⟩) rfl _ _ rfl rfl ERR.out (by have:=HOL.out;have:=HNN.out;omega) KW.out.b.size rfl NB802.out (NE803.out.mono HLO.out) rfl ?_))
    intro z9 w9 her9 hb9;obtain⟨za9,zn9,zc9⟩:=z9;have ER9:=qh her9;have HB9:=qh hb9;clear her9 hb9;go_wp2_with fail
    go_roundw
    case rel =>
     refine⟨P2,Q',⟨if xc=1 then some ⟨pb,po,none⟩ else some ⟨pb,po+8,none⟩,xn-1,xc-1⟩,⟨ya,yn,yc⟩,⟨za9,zn9,zc9⟩,L++[(⟨yy804,t.m⟩,q)],rfl,rfl,rfl,HP2.out,HKQ.out,fun v hv=>HMP.out v (by rw[HPE.out];exact List.mem_cons_of_mem _ hv),HMQ.out,ER9.out,?_,?_,KW.out.b.trans HB9.out⟩
     ·rw[List.map_append,List.append_assoc,← HALL.out];refine congrArg _ ?_;rw[HMG.out]
      rfl
     ·rw[List.length_append,List.length_singleton];have:=HOL.out;have:=HXP.out;show L.length+1+(xn-1)+yn≤nn;omega
    case measure=>simp[lenV];have:=HXP.out;omega
   ·have HYP:=qh (Nat.pos_of_ne_zero hy0);obtain⟨u,r,qb,qo,Q2,rfl,hqe,hre,hnf,hq2⟩:=HKQ.out.cons HYP.out
    have hy1:¬((yn:Int)=0):=by have:=HYP.out;omega
    have hy3:(1:Int)≤(yn:Int):=by have:=HYP.out;omega
    have hy4:(yn:Int)≤(yc:Int):=by have h:yn≤yc:=HKQ.out.le;omega
    have hy5:1≤yn:=HYP.out;have hy6:yn≤yc:=HKQ.out.le;have hy8:0<yn:=HYP.out;have HQE:=qh hqe;have HRF:=qh hre;have HQ2:=qh hq2;have E2:=qh (hre.below KG.out);have NG:=qh (hnf.below KG.out);have HMU:=qh (show(u.m,r)∈Q from HMQ.out _ (by rw[hqe];exact List.mem_cons_self ..));have HLU4:=qh (show LQ r 400000 from HLQ.out _ HMU.out);have HLU:=qh (show LQ r 900000 from HLU4.out.up (by omega));have HLG:=qh (show LF u.c 900000 from hnf.len HLU.out (Nat.le_refl _));have HNF:=qh hnf;have HSU:=qh (show u.m.Small from HSQ.out _ HMU.out);clear hy0 hqe hre hnf hq2
    rcases Mo.lt_or t.m u.m with hc | hc | hc
    ·have HC:=qh (key_lt0 HST.out HSU.out hc);have HMG:=qh (show addP P' Q'=(u.m,r) :: addP P' Q2 by rw[HQE.out,HPE.out];exact merge_lt (HQE.out▸HKQ.out.canon) (head_gt (HPE.out▸HKP.out.canon) hc));clear hc
     go_upto_region 10 with (fail)
     go_upto_region 10 with (fail)
     refine FS.wp_region_fresh 9 [] (FS.spOf [(8,FS.Sp.know (.int .i64 (-1)))])
      (fun w'=>Below wr.heap.size wr w') (by kernel_rfl) (by kernel_rfl) (by kernel_rfl)
      (FS.spOf_cons (FS.Sp.know_keeps _ _) (FS.spOf_nil)) (fun _ _ h hb=>h.trans (hb.mono h.size)) ((Below.refl _ _).drew) ?_
     simp only[List.append_eq,List.cons_append,List.nil_append,List.take_succ_cons,List.take_zero,List.drop_succ_cons,List.drop_zero]
     iterate 8
      refine FS.wpF_reads rfl rfl rfl ?_ (fun w' hw'=>?_) ?_;rotate_left
      ·have hb':=hw'.world;obtain⟨hs0,hs1,hs2,hs3,hs4,hs5,hs6,hs7⟩:=(E1.out.below hb').eight;simp only[Nat.zero_mul,Nat.add_zero] at hs0 hs1 hs2 hs3 hs4 hs5 hs6 hs7;obtain⟨hs0,hs1,hs2,hs3,hs4,hs5,hs6,hs7⟩:=(E2.out.below hb').eight;simp only[Nat.zero_mul,Nat.add_zero] at hs0 hs1 hs2 hs3 hs4 hs5 hs6 hs7;clear hw';go_simp
       try rfl
      conv=>arg 10;simp only[Act.put,zq0,zq1,zq2]
     refine FS.wpF_spec rfl rfl rfl (fun w' hw'=>?_) ?_
     ·have hb':=hw'.world;refine FS.gives_of (FS.PK (.int .i64 (-1))) ?_ (fun _ _ h=>h.post);go_simp;have CT:=(show Calls Tryz.prog 46 #[.int .u8 0,.agg #[.int .u16 t.m.x,.int .u16 t.m.y,.int .u16 t.m.z,.int .u16 t.m.t],.agg #[.int .u16 u.m.x,.int .u16 u.m.y,.int .u16 u.m.z,.int .u16 u.m.t]] w' _ from rcmpV 0 t.m u.m w' HST.out HSU.out);rw[show Mono.cmpZ (keyO 0 t.m) (keyO 0 u.m)=(-1) from HC.out] at CT;refine CT.mono ?_;rintro e w'' ⟨rfl,hb⟩;exact⟨_,rfl,rfl,hb⟩
     rintro _ rfl
     conv=>arg 10;simp only[Act.put,zq0,zq1,zq2]
     refine FS.wpF_nil (fun w501 hb hF=>?_);clear hF;have ERR:=qh (ERR.out.below hb);have KW:=qh (KW.out.below hb);have KG:=qk KG hb;clear hb;have E1:=qh (HRE.out.below KG.out);have E2:=qh (HRF.out.below KG.out);have NF:=qh (HNT.out.below KG.out);have NG:=qh (HNF.out.below KG.out)
     go_upto_region 21 with (fail)
     have HLO:=qh KW.out.b.size
     go_upto_region 21 with (fail)
     refine FS.wp_region_fresh 12 [] (FS.spOf [(5,FS.Sp.made (fun x:FV=>x.v) (fun x w'=>EF w' w501.heap.size x r) FV.blk),(11,FS.Sp.made (fun b:Nat=>Value.slice (some ⟨b,0,none⟩) 1 1) (fun b w'=>NewT w' w501.heap.size b u.m r) (fun _ _=>False))])
      (fun w'=>Below w501.heap.size w501 w') (by kernel_rfl) (by kernel_rfl) (by kernel_rfl)
      (FS.spOf_cons (FS.Sp.made_keeps _ (fun _ _ _ h _ hk=>h.kept hk) (FS.notTaken (by kernel_rfl))) (FS.spOf_cons (FS.Sp.made_keepsR _ rowE (fun _ _ _ h hs=>h.rows hs) (by kernel_rfl) (FS.notTaken (by kernel_rfl))) (FS.spOf_nil))) (fun _ _ h hb=>h.trans (hb.mono h.size)) ((Below.refl _ _).drew) ?_
     simp only[List.append_eq,List.cons_append,List.nil_append,List.take_succ_cons,List.take_zero,List.drop_succ_cons,List.drop_zero]
     iterate 5
      refine FS.wpF_reads rfl rfl rfl ?_ (fun w' hw'=>?_) ?_;rotate_left
      ·have hb':=hw'.world;obtain⟨hs0,hs1,hs2,hs3,hs4,hs5,hs6,hs7⟩:=(E2.out.below hb').eight;simp only[Nat.zero_mul,Nat.add_zero] at hs0 hs1 hs2 hs3 hs4 hs5 hs6 hs7;clear hw';go_simp
       try rfl
      conv=>arg 10;simp only[Act.put,zq0,zq1,zq2]
     refine FS.wpF_spec rfl rfl rfl (fun w' hw'=>?_) ?_
     ·have hb':=hw'.world;refine FS.gives_of (FS.PM (fun x:FV=>x.v) (fun x w'=>EF w' w501.heap.size x r) FV.blk w'.heap.size) ?_ (fun _ _ h=>h.post (fun _ _=>FV.inj));go_simp;have CT:=(show Calls Tryz.prog 48 #[.agg #[.bool u.c.t.s,.slice u.c.t.a u.c.t.n u.c.t.c,.bool u.c.l.s,.slice u.c.l.a u.c.l.n u.c.l.c]] w' _ from rtwinV (c:=u.c) (NG.out.below hb').any HLG.out HLU.out);refine CT.mono ?_;rintro e w'' ⟨za,rfl,ho,hb⟩;exact⟨_,rfl,⟨za,rfl,ho.mono hb'.size,ho.blks⟩,hb⟩
     rintro _ ⟨y5,rfl⟩
     conv=>arg 10;simp only[Act.put,zq0,zq1,zq2]
     iterate 5
      refine FS.wpF_reads rfl rfl rfl ?_ (fun w' hw'=>?_) ?_;rotate_left
      ·have hb':=hw'.world;obtain⟨hs0,hs1,hs2,hs3,hs4,hs5,hs6,hs7⟩:=(E2.out.below hb').eight;simp only[Nat.zero_mul,Nat.add_zero] at hs0 hs1 hs2 hs3 hs4 hs5 hs6 hs7;clear hw';go_simp
       try rfl
      conv=>arg 10;simp only[Act.put,zq0,zq1,zq2]
     refine FS.wpF_spec rfl rfl rfl (fun w' hw'=>?_) ?_
     ·have hb':=hw'.world;refine FS.gives_of (FS.PM (fun b:Nat=>Value.slice (some ⟨b,0,none⟩) 1 1) (fun b w'=>NewT w' w501.heap.size b u.m r) (fun _ _=>False) w'.heap.size) ?_ (fun _ _ h=>h.post (fun _ _ h=>by cases h;rfl));go_simp;have f5:=FS.made_of (val:=(fun x:FV=>x.v)) (Φ:=fun x w'=>EF w' w501.heap.size x r) (fun _ _=>FV.inj) (hw'.fact2 10 5 (by kernel_rfl) (by kernel_rfl));exact⟨⟨w'.heap.size,rfl,⟨⟨y5,Bxs.new w' _ (TV.cells ⟨y5,u.m⟩),f5.alloc _⟩⟩,fun _ h=>False.elim h⟩,(Below.refl _ _).alloc (Nat.le_refl _) _⟩
     rintro _ ⟨y11,rfl⟩
     conv=>arg 10;simp only[Act.put,zq0,zq1,zq2]
     refine FS.wpF_nil (fun w901 hb hF=>?_);obtain⟨⟨yy904,hB,hE⟩⟩:=FS.made_of (val:=(fun b:Nat=>Value.slice (some ⟨b,0,none⟩) 1 1)) (Φ:=fun b w'=>NewT w' w501.heap.size b u.m r) (fun _ _ h=>by cases h;rfl) (hF.all 11);have NB902:=qh hB;have NE903:=qh hE;clear hB hE;clear hF;have NG:=qh (NG.out.below hb);have ERR:=qh (ERR.out.below hb);have KW:=qh (KW.out.below hb);have KG:=qk KG hb;clear hb;go_wp2_with (first | (at_builtin;refine wpList_pushE (t:=⟨yy904,u.m⟩) rfl _ _ rfl rfl ERR.out (by have:=HOL.out;have:=HNN.out;omega) KW.out.b.size rfl NB902.out (NE903.out.mono HLO.out) rfl ?_))
     intro z9 w9 her9 hb9;obtain⟨za9,zn9,zc9⟩:=z9;have ER9:=qh her9;have HB9:=qh hb9;clear her9 hb9;go_wp2_with fail
     go_roundw
     case rel =>
      refine⟨P',Q2,⟨some ⟨pb,po,none⟩,xn,xc⟩,⟨if yc=1 then some ⟨qb,qo,none⟩ else some ⟨qb,qo+8,none⟩,yn-1,yc-1⟩,⟨za9,zn9,zc9⟩,L++[(⟨yy904,u.m⟩,r)],rfl,rfl,rfl,HKP.out,HQ2.out,HMP.out,fun v hv=>HMQ.out v (by rw[HQE.out];exact List.mem_cons_of_mem _ hv),ER9.out,?_,?_,KW.out.b.trans HB9.out⟩
      ·rw[List.map_append,List.append_assoc,← HALL.out];refine congrArg _ ?_;rw[HMG.out]
       rfl
      ·rw[List.length_append,List.length_singleton];have:=HOL.out;have:=HYP.out;show L.length+1+xn+(yn-1)≤nn;omega
     case measure=>simp[lenV];have:=HYP.out;omega
    ·have HC:=qh (show Mono.cmpZ (keyO 0 t.m) (keyO 0 u.m)=0 by rw[hc];exact Mono.cmpZ_eq rfl);have HC3:=qh hc;clear hc
     go_upto_region 10 with (fail)
     go_upto_region 10 with (fail)
     refine FS.wp_region_fresh 9 [] (FS.spOf [(8,FS.Sp.know (.int .i64 0))])
      (fun w'=>Below wr.heap.size wr w') (by kernel_rfl) (by kernel_rfl) (by kernel_rfl)
      (FS.spOf_cons (FS.Sp.know_keeps _ _) (FS.spOf_nil)) (fun _ _ h hb=>h.trans (hb.mono h.size)) ((Below.refl _ _).drew) ?_
     simp only[List.append_eq,List.cons_append,List.nil_append,List.take_succ_cons,List.take_zero,List.drop_succ_cons,List.drop_zero]
     iterate 8
      refine FS.wpF_reads rfl rfl rfl ?_ (fun w' hw'=>?_) ?_;rotate_left
      ·have hb':=hw'.world;obtain⟨hs0,hs1,hs2,hs3,hs4,hs5,hs6,hs7⟩:=(E1.out.below hb').eight;simp only[Nat.zero_mul,Nat.add_zero] at hs0 hs1 hs2 hs3 hs4 hs5 hs6 hs7;obtain⟨hs0,hs1,hs2,hs3,hs4,hs5,hs6,hs7⟩:=(E2.out.below hb').eight;simp only[Nat.zero_mul,Nat.add_zero] at hs0 hs1 hs2 hs3 hs4 hs5 hs6 hs7;clear hw';go_simp
       try rfl
      conv=>arg 10;simp only[Act.put,zq0,zq1,zq2]
     refine FS.wpF_spec rfl rfl rfl (fun w' hw'=>?_) ?_
     ·have hb':=hw'.world;refine FS.gives_of (FS.PK (.int .i64 0)) ?_ (fun _ _ h=>h.post);go_simp;have CT:=(show Calls Tryz.prog 46 #[.int .u8 0,.agg #[.int .u16 t.m.x,.int .u16 t.m.y,.int .u16 t.m.z,.int .u16 t.m.t],.agg #[.int .u16 u.m.x,.int .u16 u.m.y,.int .u16 u.m.z,.int .u16 u.m.t]] w' _ from rcmpV 0 t.m u.m w' HST.out HSU.out);rw[show Mono.cmpZ (keyO 0 t.m) (keyO 0 u.m)=0 from HC.out] at CT;refine CT.mono ?_;rintro e w'' ⟨rfl,hb⟩;exact⟨_,rfl,rfl,hb⟩
     rintro _ rfl
     conv=>arg 10;simp only[Act.put,zq0,zq1,zq2]
     refine FS.wpF_nil (fun w601 hb hF=>?_);clear hF;have ERR:=qh (ERR.out.below hb);have KW:=qh (KW.out.below hb);have KG:=qk KG hb;clear hb;have E1:=qh (HRE.out.below KG.out);have E2:=qh (HRF.out.below KG.out);have NF:=qh (HNT.out.below KG.out);have NG:=qh (HNF.out.below KG.out)
     go_upto_region 12 with (fail)
     have HLO:=qh KW.out.b.size
     go_upto_region 12 with (fail)
     refine FS.wp_region_fresh 10 [] (FS.spOf [(8,FS.Sp.made (fun x:FV=>x.v) (fun x w'=>EF w' w601.heap.size x (q+r)) FV.blk),(9,FS.Sp.box 28 4 w601.heap.size)])
      (fun w'=>Below w601.heap.size w601 w') (by kernel_rfl) (by kernel_rfl) (by kernel_rfl)
      (FS.spOf_cons (FS.Sp.made_keeps _ (fun _ _ _ h _ hk=>h.kept hk) (FS.notTaken (by kernel_rfl))) (FS.spOf_cons (FS.Sp.box_keeps _ _ _ _) (FS.spOf_nil))) (fun _ _ h hb=>h.trans (hb.mono h.size)) ((Below.refl _ _).drew) ?_
     simp only[List.append_eq,List.cons_append,List.nil_append,List.take_succ_cons,List.take_zero,List.drop_succ_cons,List.drop_zero]
     iterate 8
      refine FS.wpF_reads rfl rfl rfl ?_ (fun w' hw'=>?_) ?_;rotate_left
      ·have hb':=hw'.world;obtain⟨hs0,hs1,hs2,hs3,hs4,hs5,hs6,hs7⟩:=(E1.out.below hb').eight;simp only[Nat.zero_mul,Nat.add_zero] at hs0 hs1 hs2 hs3 hs4 hs5 hs6 hs7;obtain⟨hs0,hs1,hs2,hs3,hs4,hs5,hs6,hs7⟩:=(E2.out.below hb').eight;simp only[Nat.zero_mul,Nat.add_zero] at hs0 hs1 hs2 hs3 hs4 hs5 hs6 hs7;clear hw';go_simp
       try rfl
      conv=>arg 10;simp only[Act.put,zq0,zq1,zq2]
     refine FS.wpF_spec rfl rfl rfl (fun w' hw'=>?_) ?_
     ·have hb':=hw'.world;refine FS.gives_of (FS.PM (fun x:FV=>x.v) (fun x w'=>EF w' w601.heap.size x (q+r)) FV.blk w'.heap.size) ?_ (fun _ _ h=>h.post (fun _ _=>FV.inj));go_simp;have CT:=(show Calls Tryz.prog 54 #[.agg #[.bool t.c.t.s,.slice t.c.t.a t.c.t.n t.c.t.c,.bool t.c.l.s,.slice t.c.l.a t.c.l.n t.c.l.c],.agg #[.bool u.c.t.s,.slice u.c.t.a u.c.t.n u.c.t.c,.bool u.c.l.s,.slice u.c.l.a u.c.l.n u.c.l.c]] w' _ from raddV (x:=t.c) (y:=u.c) (NF.out.below hb').any HLF.out (NG.out.below hb').any HLG.out);refine CT.mono ?_;rintro e w'' ⟨za,rfl,ho,hb⟩;exact⟨_,rfl,⟨za,rfl,ho.mono hb'.size,ho.blks⟩,hb⟩
     rintro _ ⟨y8,rfl⟩
     conv=>arg 10;simp only[Act.put,zq0,zq1,zq2]
     refine FS.wpF_spec rfl rfl rfl (fun w' hw'=>?_) ?_
     ·have hb':=hw'.world;refine FS.gives_of (FS.PB 28 4 w601.heap.size w'.heap.size) ?_ (fun _ _ h=>h.post);go_simp;exact⟨FS.PB.new _ rfl hb'.size,(Below.refl _ _).alloc (Nat.le_refl _) _⟩
     rintro _ ⟨y9,rfl⟩
     conv=>arg 10;simp only[Act.put,zq0,zq1,zq2]
     refine FS.wpF_nil (fun w1102 hb hF=>?_);have N1103:=qh (show EF w1102 w601.heap.size y8 (q+r) from(FS.made_of (val:=(fun x:FV=>x.v)) (Φ:=fun x w'=>EF w' w601.heap.size x (q+r)) (fun _ _=>FV.inj) (hF.all 8)));have HX:=qh (FS.box_of (hF.all 9));have HBW:=qh hb;clear hF hb;obtain⟨c0,c1,c2,c3,hB⟩:=shp4 HX.out.1;have HBB:=qh hB;clear hB;have m0:=HBB.out.cell (i:=0) rfl;have m1:=HBB.out.cell (i:=1) rfl;have m2:=HBB.out.cell (i:=2) rfl;have m3:=HBB.out.cell (i:=3) rfl;have mf:=HBB.out.fz;have ml:=HBB.out.lt
     go_upto_region 13 with (fail)
     obtain⟨v1104,hV⟩:∃ V,V=(((w1102.setCell ⟨y9,0,none⟩ (.bool y8.t.s)).setCell ⟨y9,1,none⟩ (.slice y8.t.a y8.t.n y8.t.c)).setCell ⟨y9,2,none⟩ (.bool y8.l.s)).setCell ⟨y9,3,none⟩ (.slice y8.l.a y8.l.n y8.l.c):=⟨_,rfl⟩
     have hbV:Below w601.heap.size w601 v1104:=by rw[hV];exact((((HBW.out.setCell HX.out.2 _).setCell HX.out.2 _).setCell HX.out.2 _).setCell HX.out.2 _)
     have BX1101:=qh (show Bxs v1104 y9 28 [.bool y8.t.s,.slice y8.t.a y8.t.n y8.t.c,.bool y8.l.s,.slice y8.l.a y8.l.n y8.l.c] by rw[hV];exact((((HBB.out.put 0 _).put 1 _).put 2 _).put 3 _));have N1103:=qh (show EF v1104 w601.heap.size y8 (q+r) by rw[hV];exact((((N1103.out.setBxs HBB.out (by decide) 0 _).setBxs (HBB.out.put 0 _) (by decide) 1 _).setBxs ((HBB.out.put 0 _).put 1 _) (by decide) 2 _).setBxs (((HBB.out.put 0 _).put 1 _).put 2 _) (by decide) 3 _));rw[show(((w1102.setCell ⟨y9,0,none⟩ (.bool y8.t.s)).setCell ⟨y9,1,none⟩ (.slice y8.t.a y8.t.n y8.t.c)).setCell ⟨y9,2,none⟩ (.bool y8.l.s)).setCell ⟨y9,3,none⟩ (.slice y8.l.a y8.l.n y8.l.c)=v1104 from hV.symm];clear m0 m1 m2 m3 mf ml HX HBW HBB;have NF:=qh (NF.out.below hbV);have NG:=qh (NG.out.below hbV);have ERR:=qh (ERR.out.below hbV);have KW:=qh (KW.out.below hbV);have KG:=qk KG hbV;clear hV hbV;have NS:=qh (N1103.out.mono HLO.out);have B7:=BX1101;have HLS:=qh (show LF y8 900000 from NS.out.k.len (LQ.add (m:=900000) HLT4.out HLU4.out (by omega)) (Nat.le_refl _));have CS:=qh (show Calls Tryz.prog 45 #[.agg #[.bool y8.t.s,.slice y8.t.a y8.t.n y8.t.c,.bool y8.l.s,.slice y8.l.a y8.l.n y8.l.c]] v1104 _ from rsignV (x:=y8) NS.out.k.any HLS.out);obtain⟨sg,hsg⟩:∃ c,c=cmpZ (q+r).num 0:=⟨_,rfl⟩;rw[← hsg] at CS;have HGS:=qh (show(sg != 0)=decide (q+r≠0) by rw[hsg];exact sg_ne);clear hsg;have c70:=B7.out.cell (i:=0) rfl;have c71:=B7.out.cell (i:=1) rfl;have c72:=B7.out.cell (i:=2) rfl;have c73:=B7.out.cell (i:=3) rfl;go_wp2_with fail
     with_reducible refine CS.out.mono ?_
     rintro e w8 ⟨rfl,hb⟩;have ERR:=qh (ERR.out.below hb);have NS:=qh (NS.out.below hb);have KW:=qh (KW.out.below hb);have B7:=qh (B7.out.below hb B7.out.lt);have KG:=qk KG hb;have E1:=qh (HRE.out.below KG.out);clear hb CS c70 c71 c72 c73
     by_cases hqr:q+r=0
     ·have g0:(sg != 0)=false:=by rw[HGS.out];exact decide_eq_false fun h=>h hqr
      have g1:sg=0:=by simpa using g0
      have HQR:=qh hqr;clear hqr;go_wp2_with fail
      go_roundw
      case rel =>
       refine⟨P2,Q2,⟨if xc=1 then some ⟨pb,po,none⟩ else some ⟨pb,po+8,none⟩,xn-1,xc-1⟩,⟨if yc=1 then some ⟨qb,qo,none⟩ else some ⟨qb,qo+8,none⟩,yn-1,yc-1⟩,⟨oa,on,oc⟩,L,rfl,rfl,rfl,HP2.out,HQ2.out,fun v hv=>HMP.out v (by rw[HPE.out];exact List.mem_cons_of_mem _ hv),fun v hv=>HMQ.out v (by rw[HQE.out];exact List.mem_cons_of_mem _ hv),ERR.out,?_,?_,KW.out.b⟩
       ·rw[← HALL.out,HPE.out,HQE.out,merge_off (show t.m=u.m from HC3.out) HQR.out]
       ·have:=HOL.out;have:=HXP.out;show L.length+(xn-1)+(yn-1)≤nn;omega
      case measure=>simp[lenV];have:=HXP.out;omega
     ·have g0:(sg != 0)=true:=by rw[HGS.out];exact decide_eq_true hqr
      have g1:¬(sg=0):=by simpa using g0
      have HQR:=qh hqr;clear hqr
      go_upto_region 14 with (fail)
      go_upto_region 14 with (fail)
      refine FS.wp_region_fresh 8 [] (FS.spOf [(7,FS.Sp.made (fun b:Nat=>Value.slice (some ⟨b,0,none⟩) 1 1) (fun b w'=>Bxs w' b 32 [.bool y8.t.s,.slice y8.t.a y8.t.n y8.t.c,.bool y8.l.s,.slice y8.l.a y8.l.n y8.l.c,.int .u16 t.m.x,.int .u16 t.m.y,.int .u16 t.m.z,.int .u16 t.m.t]) (fun _ _=>False))])
       (fun w'=>Below w8.heap.size w8 w') (by kernel_rfl) (by kernel_rfl) (by kernel_rfl)
       (FS.spOf_cons (FS.Sp.made_keepsR _ (fun T=>T==32) (fun _ _ _ h hs=>bxs_rowsE h hs rfl) (by kernel_rfl) (FS.notTaken (by kernel_rfl))) (FS.spOf_nil)) (fun _ _ h hb=>h.trans (hb.mono h.size)) ((Below.refl _ _).drew) ?_
      simp only[List.append_eq,List.cons_append,List.nil_append,List.take_succ_cons,List.take_zero,List.drop_succ_cons,List.drop_zero]
      iterate 7
       refine FS.wpF_reads rfl rfl rfl ?_ (fun w' hw'=>?_) ?_;rotate_left
       ·have hb':=hw'.world;have hs0:=(B7.out.below hb' B7.out.lt).cell (i:=0) rfl;have hs1:=(B7.out.below hb' B7.out.lt).cell (i:=1) rfl;have hs2:=(B7.out.below hb' B7.out.lt).cell (i:=2) rfl;have hs3:=(B7.out.below hb' B7.out.lt).cell (i:=3) rfl;have hsf:=(B7.out.below hb' B7.out.lt).fz;have hsl:=(B7.out.below hb' B7.out.lt).lt;obtain⟨hs0,hs1,hs2,hs3,hs4,hs5,hs6,hs7⟩:=(E1.out.below hb').eight;simp only[Nat.zero_mul,Nat.add_zero] at hs0 hs1 hs2 hs3 hs4 hs5 hs6 hs7;clear hw';go_simp
        try rfl
       conv=>arg 10;simp only[Act.put,zq0,zq1,zq2]
      refine FS.wpF_spec rfl rfl rfl (fun w' hw'=>?_) ?_
      ·have hb':=hw'.world;refine FS.gives_of (FS.PM (fun b:Nat=>Value.slice (some ⟨b,0,none⟩) 1 1) (fun b w'=>Bxs w' b 32 [.bool y8.t.s,.slice y8.t.a y8.t.n y8.t.c,.bool y8.l.s,.slice y8.l.a y8.l.n y8.l.c,.int .u16 t.m.x,.int .u16 t.m.y,.int .u16 t.m.z,.int .u16 t.m.t]) (fun _ _=>False) w'.heap.size) ?_ (fun _ _ h=>h.post (fun _ _ h=>by cases h;rfl));go_simp;exact⟨⟨w'.heap.size,rfl,Bxs.new w' _ _,fun _ h=>False.elim h⟩,(Below.refl _ _).alloc (Nat.le_refl _) _⟩
      rintro _ ⟨y7,rfl⟩
      conv=>arg 10;simp only[Act.put,zq0,zq1,zq2]
      refine FS.wpF_nil (fun w1201 hb hF=>?_);have NB1202:=qh (FS.made_of (val:=(fun b:Nat=>Value.slice (some ⟨b,0,none⟩) 1 1)) (Φ:=fun b w'=>Bxs w' b 32 [.bool y8.t.s,.slice y8.t.a y8.t.n y8.t.c,.bool y8.l.s,.slice y8.l.a y8.l.n y8.l.c,.int .u16 t.m.x,.int .u16 t.m.y,.int .u16 t.m.z,.int .u16 t.m.t]) (fun _ _ h=>by cases h;rfl) (hF.all 7));clear hF;have NS:=qh (NS.out.below hb);have ERR:=qh (ERR.out.below hb);have KW:=qh (KW.out.below hb);have B7:=qh (B7.out.below hb B7.out.lt);have KG:=qk KG hb;clear hb;go_wp2_with (first | (at_builtin;refine wpList_pushE (t:=⟨y8,t.m⟩) rfl _ _ rfl rfl ERR.out (by have:=HOL.out;have:=HNN.out;omega) KW.out.b.size rfl NB1202.out NS.out rfl ?_))
      intro z9 w9 her9 hb9;obtain⟨za9,zn9,zc9⟩:=z9;have ER9:=qh her9;have HB9:=qh hb9;clear her9 hb9;go_wp2_with fail
      go_roundw
      case rel =>
       refine⟨P2,Q2,⟨if xc=1 then some ⟨pb,po,none⟩ else some ⟨pb,po+8,none⟩,xn-1,xc-1⟩,⟨if yc=1 then some ⟨qb,qo,none⟩ else some ⟨qb,qo+8,none⟩,yn-1,yc-1⟩,⟨za9,zn9,zc9⟩,L++[(⟨y8,t.m⟩,q+r)],rfl,rfl,rfl,HP2.out,HQ2.out,fun v hv=>HMP.out v (by rw[HPE.out];exact List.mem_cons_of_mem _ hv),fun v hv=>HMQ.out v (by rw[HQE.out];exact List.mem_cons_of_mem _ hv),ER9.out,?_,?_,KW.out.b.trans HB9.out⟩
       ·rw[List.map_append,List.append_assoc,← HALL.out,HPE.out,HQE.out,merge_eq (HPE.out▸HKP.out.canon) (HQE.out▸HKQ.out.canon) (show t.m=u.m from HC3.out) HQR.out]
        rfl
       ·rw[List.length_append,List.length_singleton];have:=HOL.out;have:=HXP.out;have:=HYP.out;show L.length+1+(xn-1)+(yn-1)≤nn;omega
      case measure=>simp[lenV];have:=HXP.out;omega
    ·have HC:=qh (key_gt0 HST.out HSU.out hc);have HMG:=qh (show addP P' Q'=(t.m,q) :: addP P2 Q' by rw[HQE.out,HPE.out];exact merge_gt (HPE.out▸HKP.out.canon) (head_gt (HQE.out▸HKQ.out.canon) hc));clear hc
     go_upto_region 10 with (fail)
     go_upto_region 10 with (fail)
     refine FS.wp_region_fresh 9 [] (FS.spOf [(8,FS.Sp.know (.int .i64 1))])
      (fun w'=>Below wr.heap.size wr w') (by kernel_rfl) (by kernel_rfl) (by kernel_rfl)
      (FS.spOf_cons (FS.Sp.know_keeps _ _) (FS.spOf_nil)) (fun _ _ h hb=>h.trans (hb.mono h.size)) ((Below.refl _ _).drew) ?_
     simp only[List.append_eq,List.cons_append,List.nil_append,List.take_succ_cons,List.take_zero,List.drop_succ_cons,List.drop_zero]
     iterate 8
      refine FS.wpF_reads rfl rfl rfl ?_ (fun w' hw'=>?_) ?_;rotate_left
      ·have hb':=hw'.world;obtain⟨hs0,hs1,hs2,hs3,hs4,hs5,hs6,hs7⟩:=(E1.out.below hb').eight;simp only[Nat.zero_mul,Nat.add_zero] at hs0 hs1 hs2 hs3 hs4 hs5 hs6 hs7;obtain⟨hs0,hs1,hs2,hs3,hs4,hs5,hs6,hs7⟩:=(E2.out.below hb').eight;simp only[Nat.zero_mul,Nat.add_zero] at hs0 hs1 hs2 hs3 hs4 hs5 hs6 hs7;clear hw';go_simp
       try rfl
      conv=>arg 10;simp only[Act.put,zq0,zq1,zq2]
     refine FS.wpF_spec rfl rfl rfl (fun w' hw'=>?_) ?_
     ·have hb':=hw'.world;refine FS.gives_of (FS.PK (.int .i64 1)) ?_ (fun _ _ h=>h.post);go_simp;have CT:=(show Calls Tryz.prog 46 #[.int .u8 0,.agg #[.int .u16 t.m.x,.int .u16 t.m.y,.int .u16 t.m.z,.int .u16 t.m.t],.agg #[.int .u16 u.m.x,.int .u16 u.m.y,.int .u16 u.m.z,.int .u16 u.m.t]] w' _ from rcmpV 0 t.m u.m w' HST.out HSU.out);rw[show Mono.cmpZ (keyO 0 t.m) (keyO 0 u.m)=1 from HC.out] at CT;refine CT.mono ?_;rintro e w'' ⟨rfl,hb⟩;exact⟨_,rfl,rfl,hb⟩
     rintro _ rfl
     conv=>arg 10;simp only[Act.put,zq0,zq1,zq2]
     refine FS.wpF_nil (fun w401 hb hF=>?_);clear hF;have ERR:=qh (ERR.out.below hb);have KW:=qh (KW.out.below hb);have KG:=qk KG hb;clear hb;have E1:=qh (HRE.out.below KG.out);have E2:=qh (HRF.out.below KG.out);have NF:=qh (HNT.out.below KG.out);have NG:=qh (HNF.out.below KG.out)
     go_upto_region 18 with (fail)
     have HLO:=qh KW.out.b.size
     go_upto_region 18 with (fail)
     refine FS.wp_region_fresh 12 [] (FS.spOf [(5,FS.Sp.made (fun x:FV=>x.v) (fun x w'=>EF w' w401.heap.size x q) FV.blk),(11,FS.Sp.made (fun b:Nat=>Value.slice (some ⟨b,0,none⟩) 1 1) (fun b w'=>NewT w' w401.heap.size b t.m q) (fun _ _=>False))])
      (fun w'=>Below w401.heap.size w401 w') (by kernel_rfl) (by kernel_rfl) (by kernel_rfl)
      (FS.spOf_cons (FS.Sp.made_keeps _ (fun _ _ _ h _ hk=>h.kept hk) (FS.notTaken (by kernel_rfl))) (FS.spOf_cons (FS.Sp.made_keepsR _ rowE (fun _ _ _ h hs=>h.rows hs) (by kernel_rfl) (FS.notTaken (by kernel_rfl))) (FS.spOf_nil))) (fun _ _ h hb=>h.trans (hb.mono h.size)) ((Below.refl _ _).drew) ?_
     simp only[List.append_eq,List.cons_append,List.nil_append,List.take_succ_cons,List.take_zero,List.drop_succ_cons,List.drop_zero]
     iterate 5
      refine FS.wpF_reads rfl rfl rfl ?_ (fun w' hw'=>?_) ?_;rotate_left
      ·have hb':=hw'.world;obtain⟨hs0,hs1,hs2,hs3,hs4,hs5,hs6,hs7⟩:=(E1.out.below hb').eight;simp only[Nat.zero_mul,Nat.add_zero] at hs0 hs1 hs2 hs3 hs4 hs5 hs6 hs7;clear hw';go_simp
       try rfl
      conv=>arg 10;simp only[Act.put,zq0,zq1,zq2]
     refine FS.wpF_spec rfl rfl rfl (fun w' hw'=>?_) ?_
     ·have hb':=hw'.world;refine FS.gives_of (FS.PM (fun x:FV=>x.v) (fun x w'=>EF w' w401.heap.size x q) FV.blk w'.heap.size) ?_ (fun _ _ h=>h.post (fun _ _=>FV.inj));go_simp;have CT:=(show Calls Tryz.prog 48 #[.agg #[.bool t.c.t.s,.slice t.c.t.a t.c.t.n t.c.t.c,.bool t.c.l.s,.slice t.c.l.a t.c.l.n t.c.l.c]] w' _ from rtwinV (c:=t.c) (NF.out.below hb').any HLF.out HLT.out);refine CT.mono ?_;rintro e w'' ⟨za,rfl,ho,hb⟩;exact⟨_,rfl,⟨za,rfl,ho.mono hb'.size,ho.blks⟩,hb⟩
     rintro _ ⟨y5,rfl⟩
     conv=>arg 10;simp only[Act.put,zq0,zq1,zq2]
     iterate 5
      refine FS.wpF_reads rfl rfl rfl ?_ (fun w' hw'=>?_) ?_;rotate_left
      ·have hb':=hw'.world;obtain⟨hs0,hs1,hs2,hs3,hs4,hs5,hs6,hs7⟩:=(E1.out.below hb').eight;simp only[Nat.zero_mul,Nat.add_zero] at hs0 hs1 hs2 hs3 hs4 hs5 hs6 hs7;clear hw';go_simp
       try rfl
      conv=>arg 10;simp only[Act.put,zq0,zq1,zq2]
     refine FS.wpF_spec rfl rfl rfl (fun w' hw'=>?_) ?_
     ·have hb':=hw'.world;refine FS.gives_of (FS.PM (fun b:Nat=>Value.slice (some ⟨b,0,none⟩) 1 1) (fun b w'=>NewT w' w401.heap.size b t.m q) (fun _ _=>False) w'.heap.size) ?_ (fun _ _ h=>h.post (fun _ _ h=>by cases h;rfl));go_simp;have f5:=FS.made_of (val:=(fun x:FV=>x.v)) (Φ:=fun x w'=>EF w' w401.heap.size x q) (fun _ _=>FV.inj) (hw'.fact2 10 5 (by kernel_rfl) (by kernel_rfl));exact⟨⟨w'.heap.size,rfl,⟨⟨y5,Bxs.new w' _ (TV.cells ⟨y5,t.m⟩),f5.alloc _⟩⟩,fun _ h=>False.elim h⟩,(Below.refl _ _).alloc (Nat.le_refl _) _⟩
     rintro _ ⟨y11,rfl⟩
     conv=>arg 10;simp only[Act.put,zq0,zq1,zq2]
     refine FS.wpF_nil (fun w1001 hb hF=>?_);obtain⟨⟨yy1004,hB,hE⟩⟩:=FS.made_of (val:=(fun b:Nat=>Value.slice (some ⟨b,0,none⟩) 1 1)) (Φ:=fun b w'=>NewT w' w401.heap.size b t.m q) (fun _ _ h=>by cases h;rfl) (hF.all 11);have NB1002:=qh hB;have NE1003:=qh hE;clear hB hE;clear hF;have NF:=qh (NF.out.below hb);have ERR:=qh (ERR.out.below hb);have KW:=qh (KW.out.below hb);have KG:=qk KG hb;clear hb;go_wp2_with (first | (at_builtin;refine wpList_pushE (t:=⟨yy1004,t.m⟩) rfl _ _ rfl rfl ERR.out (by have:=HOL.out;have:=HNN.out;omega) KW.out.b.size rfl NB1002.out (NE1003.out.mono HLO.out) rfl ?_))
     intro z9 w9 her9 hb9;obtain⟨za9,zn9,zc9⟩:=z9;have ER9:=qh her9;have HB9:=qh hb9;clear her9 hb9;go_wp2_with fail
     go_roundw
     case rel =>
      refine⟨P2,Q',⟨if xc=1 then some ⟨pb,po,none⟩ else some ⟨pb,po+8,none⟩,xn-1,xc-1⟩,⟨some ⟨qb,qo,none⟩,yn,yc⟩,⟨za9,zn9,zc9⟩,L++[(⟨yy1004,t.m⟩,q)],rfl,rfl,rfl,HP2.out,HKQ.out,fun v hv=>HMP.out v (by rw[HPE.out];exact List.mem_cons_of_mem _ hv),HMQ.out,ER9.out,?_,?_,KW.out.b.trans HB9.out⟩
      ·rw[List.map_append,List.append_assoc,← HALL.out];refine congrArg _ ?_;rw[HMG.out]
       rfl
      ·rw[List.length_append,List.length_singleton];have:=HOL.out;have:=HXP.out;show L.length+1+(xn-1)+yn≤nn;omega
     case measure=>simp[lenV];have:=HXP.out;omega
theorem rtimes_any (x:PV) (P:List Tm) (y:FV) (um:Mo) (uq:Rat) (w:World) (hx:KP w x P) (hq:∀ t∈P,LQ t.2 900000) (hxn:x.n≤1000000) (hy:KF w y uq) (hyl:LF y 900000) (hu:um.Small) (hz:uq≠0) :
  Calls Tryz.prog 25 #[x.v,TV.v ⟨y,um⟩] w fun e w'=>(∃ z:PV,e=.returned (.tuple #[z.v,.int .i64 0])∧(∀ t∈P,(t.1.mul um).Small)∧EP w' w.heap.size z (mulP P [(um,uq)])∧Below w.heap.size w w') ∨
   (e=.returned (.tuple #[.slice none 0 0,.int .i64 3])∧(∃ t∈P,¬(t.1.mul um).Small)∧Below w.heap.size w w'):=by
 obtain⟨za,zn,zc⟩:=x;obtain⟨V,hV⟩:∃ V,V=w.alloc (.cells #[.bool y.t.s,.slice y.t.a y.t.n y.t.c,.bool y.l.s,.slice y.l.a y.l.n y.l.c,.int .u16 um.x,.int .u16 um.y,.int .u16 um.z,.int .u16 um.t] 32):=⟨_,rfl⟩
 have hbV:Below w.heap.size w V:=by rw[hV];exact(Below.refl _ _).alloc (Nat.le_refl _) _
 have B3:=qh (show Bxs V w.heap.size 32 [.bool y.t.s,.slice y.t.a y.t.n y.t.c,.bool y.l.s,.slice y.l.a y.l.n y.l.c,.int .u16 um.x,.int .u16 um.y,.int .u16 um.z,.int .u16 um.t] by rw[hV];exact Bxs.new w 32 [.bool y.t.s,.slice y.t.a y.t.n y.t.c,.bool y.l.s,.slice y.l.a y.l.n y.l.c,.int .u16 um.x,.int .u16 um.y,.int .u16 um.z,.int .u16 um.t]);have FZ:=qh hx;have HQ:=qh hq;have HLU:=qh hyl;have HSU:=qh hu;have HZU:=qh hz;have NU:=qh (hy.below hbV);have KG:=qh hbV;have HV:=qh hV;have HZN:=qh (show zn≤1000000 from hxn);have HPL:=qh (show zn=P.length from hx.len);clear hV hbV hx hy hyl hu hz hxn hq;change Calls Tryz.prog 25 #[.slice za zn zc,.agg #[.bool y.t.s,.slice y.t.a y.t.n y.t.c,.bool y.l.s,.slice y.l.a y.l.n y.l.c,.int .u16 um.x,.int .u16 um.y,.int .u16 um.z,.int .u16 um.t]] w _;go_enter Tryz.func25,Tryz.ntmps25
 go_upto_region 1 with (fail)
 rw[show w.alloc (.cells #[.bool y.t.s,.slice y.t.a y.t.n y.t.c,.bool y.l.s,.slice y.l.a y.l.n y.l.c,.int .u16 um.x,.int .u16 um.y,.int .u16 um.z,.int .u16 um.t] 32)=V from HV.out.symm];have HLW:=qh KG.out.size;go_wp2_with fail
 go_loopw [6,7] (fun o i wr=>∃ (k:Nat) (z:PV) (L:List TE),o=z.v∧i=.int .i64 k∧k≤zn∧ER wr V.heap.size z.v L∧L.map tm=(P.take k).map (fun t=>(t.1.mul um,t.2*uq))∧(∀ t∈P.take k,(t.1.mul um).Small)∧Below V.heap.size V wr) (fun _ i _=>zn-(intOf i).toNat)
 case atStart=>exact⟨0,⟨none,0,0⟩,[],rfl,rfl,Nat.zero_le _,ER.nil,rfl,fun t h=>(by cases h),Below.refl _ _⟩
 case round =>
  obtain⟨k,⟨oa,on,oc⟩,L,ho,rfl,hkz,her,hL,hsm,hb0⟩:=hrel;obtain rfl:_=Value.slice oa on oc:=ho;have HKZ:=qh hkz;have ERR:=qh her;have HL:=qh hL;have HAS:=qh hsm;have KW:=qh (show Bt V wr from⟨hb0⟩);have B3:=qh (B3.out.below hb0 B3.out.lt);have NU:=qh (NU.out.below hb0);have KG:=qk KG hb0;have HOL:=qh (show L.length≤zn by have h:=congrArg List.length hL;rw[List.length_map,List.length_map,List.length_take] at h;omega);clear hkz her hL hsm hb0
  by_cases hkl:k<zn
  ·have HKL:=qh hkl
   have hkl2:(k:Int)<(zn:Int):=by omega
   obtain⟨t,q,pb,po,rfl,hre,hnf,htp⟩:=FZ.out.get HKL.out;have E1:=qh (hre.below KG.out);have NF:=qh (hnf.below KG.out);have HTP:=qh htp;have HLF:=qh (show LF t.c 900000 from hnf.len (HQ.out _ (List.mem_of_getElem? htp)) (Nat.le_refl _));have HST:=qh (show t.m.Small from FZ.out.small _ (List.mem_of_getElem? htp));have HRE:=qh hre;have HNF:=qh hnf;clear hkl hre hnf htp
   by_cases hs:(t.m.mul um).Small
   ·have HSM:=qh hs;clear hs
    go_upto_region 5 with (fail)
    refine FS.wp_region_fresh 13 [(12,11)] (FS.spOf [(7,FS.Sp.know (.tuple #[.agg #[.int .u16 (t.m.mul um).x,.int .u16 (t.m.mul um).y,.int .u16 (t.m.mul um).z,.int .u16 (t.m.mul um).t],.int .i64 0])),(11,FS.Sp.box 30 4 wr.heap.size)])
     (fun w'=>Below wr.heap.size wr w') (by kernel_rfl) (by kernel_rfl) (by kernel_rfl)
     (FS.spOf_cons (FS.Sp.know_keeps _ _) (FS.spOf_cons (FS.Sp.box_keeps _ _ _ _) (FS.spOf_nil))) (fun _ _ h hb=>h.trans (hb.mono h.size)) ((Below.refl _ _).drew) ?_
    simp only[List.append_eq,List.cons_append,List.nil_append,List.take_succ_cons,List.take_zero,List.drop_succ_cons,List.drop_zero]
    iterate 7
     refine FS.wpF_reads rfl rfl rfl ?_ (fun w' hw'=>?_) ?_;rotate_left
     ·have hb':=hw'.world;obtain⟨hs0,hs1,hs2,hs3,hs4,hs5,hs6,hs7⟩:=(E1.out.below hb').eight;have hs0:=(B3.out.below hb' B3.out.lt).cell (i:=0) rfl;have hs1:=(B3.out.below hb' B3.out.lt).cell (i:=1) rfl;have hs2:=(B3.out.below hb' B3.out.lt).cell (i:=2) rfl;have hs3:=(B3.out.below hb' B3.out.lt).cell (i:=3) rfl;have hs4:=(B3.out.below hb' B3.out.lt).cell (i:=4) rfl;have hs5:=(B3.out.below hb' B3.out.lt).cell (i:=5) rfl;have hs6:=(B3.out.below hb' B3.out.lt).cell (i:=6) rfl;have hs7:=(B3.out.below hb' B3.out.lt).cell (i:=7) rfl;have hsf:=(B3.out.below hb' B3.out.lt).fz;have hsl:=(B3.out.below hb' B3.out.lt).lt;clear hw';go_simp
      try rfl
     conv=>arg 10;simp only[Act.put,zq0,zq1,zq2]
    refine FS.wpF_spec rfl rfl rfl (fun w' hw'=>?_) ?_
    ·have hb':=hw'.world;refine FS.gives_of (FS.PK (.tuple #[.agg #[.int .u16 (t.m.mul um).x,.int .u16 (t.m.mul um).y,.int .u16 (t.m.mul um).z,.int .u16 (t.m.mul um).t],.int .i64 0])) ?_ (fun _ _ h=>h.post);go_simp;have CT:=(show Calls Tryz.prog 55 #[.agg #[.int .u16 t.m.x,.int .u16 t.m.y,.int .u16 t.m.z,.int .u16 t.m.t],.agg #[.int .u16 um.x,.int .u16 um.y,.int .u16 um.z,.int .u16 um.t]] w' _ from rmono_mul t.m um w' HSM.out);refine CT.mono ?_;rintro e w'' ⟨rfl,hb⟩;exact⟨_,rfl,rfl,hb⟩
    rintro _ rfl
    conv=>arg 10;simp only[Act.put,zq0,zq1,zq2]
    iterate 3
     refine FS.wpF_reads rfl rfl rfl ?_ (fun w' hw'=>?_) ?_;rotate_left
     ·have hb':=hw'.world;skip;clear hw';go_simp
      try rfl
     conv=>arg 10;simp only[Act.put,zq0,zq1,zq2]
    refine FS.wpF_spec rfl rfl rfl (fun w' hw'=>?_) ?_
    ·have hb':=hw'.world;refine FS.gives_of (FS.PB 30 4 wr.heap.size w'.heap.size) ?_ (fun _ _ h=>h.post);go_simp;exact⟨FS.PB.new _ rfl hb'.size,(Below.refl _ _).alloc (Nat.le_refl _) _⟩
    rintro _ ⟨y11,rfl⟩
    conv=>arg 10;simp only[Act.put,zq0,zq1,zq2]
    refine FS.wpF_store rfl rfl 11 rfl rfl rfl rfl (fun _=>Iff.rfl) (fun w' hw'=>?_) ?_
    ·have hb':=hw'.world;have hX:=FS.box_of (hw'.fact 11 (by kernel_rfl));obtain⟨c0,c1,c2,c3,hB⟩:=shp4 hX.1;have m0:=hB.cell (i:=0) rfl;have m1:=hB.cell (i:=1) rfl;have m2:=hB.cell (i:=2) rfl;have m3:=hB.cell (i:=3) rfl;have mf:=hB.fz;have ml:=hB.lt;refine FS.stores_of ?_ (store4 hb' hX.2 hB (.int .u16 (t.m.mul um).x) (.int .u16 (t.m.mul um).y) (.int .u16 (t.m.mul um).z) (.int .u16 (t.m.mul um).t));clear hw';go_simp
     try rfl
    conv=>arg 10;simp only[Act.put,zq0,zq1,zq2]
    refine FS.wpF_nil (fun w102 hb hF=>?_);have BX101:=qh (show Bxs w102 y11 30 [.int .u16 (t.m.mul um).x,.int .u16 (t.m.mul um).y,.int .u16 (t.m.mul um).z,.int .u16 (t.m.mul um).t] from stored_bxs (hF.all 12));clear hF;have NU:=qh (NU.out.below hb);have ERR:=qh (ERR.out.below hb);have KW:=qh (KW.out.below hb);have B3:=qh (B3.out.below hb B3.out.lt);have KG:=qk KG hb;clear hb
    go_upto_region 8 with (fail)
    have E1:=qh (HRE.out.below KG.out);have NF:=qh (HNF.out.below KG.out);have HLO:=qh KW.out.b.size
    go_upto_region 8 with (fail)
    refine FS.wp_region_fresh 12 [] (FS.spOf [(8,FS.Sp.made (fun x:FV=>x.v) (fun x w'=>EF w' w102.heap.size x (q*uq)) FV.blk),(11,FS.Sp.made (fun b:Nat=>Value.slice (some ⟨b,0,none⟩) 1 1) (fun b w'=>NewT w' w102.heap.size b (t.m.mul um) (q*uq)) (fun _ _=>False))])
     (fun w'=>Below w102.heap.size w102 w') (by kernel_rfl) (by kernel_rfl) (by kernel_rfl)
     (FS.spOf_cons (FS.Sp.made_keeps _ (fun _ _ _ h _ hk=>h.kept hk) (FS.notTaken (by kernel_rfl))) (FS.spOf_cons (FS.Sp.made_keepsR _ rowE (fun _ _ _ h hs=>h.rows hs) (by kernel_rfl) (FS.notTaken (by kernel_rfl))) (FS.spOf_nil))) (fun _ _ h hb=>h.trans (hb.mono h.size)) ((Below.refl _ _).drew) ?_
    simp only[List.append_eq,List.cons_append,List.nil_append,List.take_succ_cons,List.take_zero,List.drop_succ_cons,List.drop_zero]
    iterate 8
     refine FS.wpF_reads rfl rfl rfl ?_ (fun w' hw'=>?_) ?_;rotate_left
     ·have hb':=hw'.world;obtain⟨hs0,hs1,hs2,hs3,hs4,hs5,hs6,hs7⟩:=(E1.out.below hb').eight;have hs0:=(B3.out.below hb' B3.out.lt).cell (i:=0) rfl;have hs1:=(B3.out.below hb' B3.out.lt).cell (i:=1) rfl;have hs2:=(B3.out.below hb' B3.out.lt).cell (i:=2) rfl;have hs3:=(B3.out.below hb' B3.out.lt).cell (i:=3) rfl;have hs4:=(B3.out.below hb' B3.out.lt).cell (i:=4) rfl;have hs5:=(B3.out.below hb' B3.out.lt).cell (i:=5) rfl;have hs6:=(B3.out.below hb' B3.out.lt).cell (i:=6) rfl;have hs7:=(B3.out.below hb' B3.out.lt).cell (i:=7) rfl;have hsf:=(B3.out.below hb' B3.out.lt).fz;have hsl:=(B3.out.below hb' B3.out.lt).lt;clear hw';go_simp
      try rfl
     conv=>arg 10;simp only[Act.put,zq0,zq1,zq2]
    refine FS.wpF_spec rfl rfl rfl (fun w' hw'=>?_) ?_
    ·have hb':=hw'.world;refine FS.gives_of (FS.PM (fun x:FV=>x.v) (fun x w'=>EF w' w102.heap.size x (q*uq)) FV.blk w'.heap.size) ?_ (fun _ _ h=>h.post (fun _ _=>FV.inj));go_simp;have CT:=(show Calls Tryz.prog 50 #[.agg #[.bool t.c.t.s,.slice t.c.t.a t.c.t.n t.c.t.c,.bool t.c.l.s,.slice t.c.l.a t.c.l.n t.c.l.c],.agg #[.bool y.t.s,.slice y.t.a y.t.n y.t.c,.bool y.l.s,.slice y.l.a y.l.n y.l.c]] w' _ from rmulV (x:=t.c) (y:=y) (NF.out.below hb').any HLF.out (NU.out.below hb').any HLU.out);refine CT.mono ?_;rintro e w'' ⟨za,rfl,ho,hb⟩;exact⟨_,rfl,⟨za,rfl,ho.mono hb'.size,ho.blks⟩,hb⟩
    rintro _ ⟨y8,rfl⟩
    conv=>arg 10;simp only[Act.put,zq0,zq1,zq2]
    iterate 2
     refine FS.wpF_reads rfl rfl rfl ?_ (fun w' hw'=>?_) ?_;rotate_left
     ·have hb':=hw'.world;have hs0:=(BX101.out.below hb' BX101.out.lt).cell (i:=0) rfl;have hs1:=(BX101.out.below hb' BX101.out.lt).cell (i:=1) rfl;have hs2:=(BX101.out.below hb' BX101.out.lt).cell (i:=2) rfl;have hs3:=(BX101.out.below hb' BX101.out.lt).cell (i:=3) rfl;have hsf:=(BX101.out.below hb' BX101.out.lt).fz;have hsl:=(BX101.out.below hb' BX101.out.lt).lt;clear hw';go_simp
      try rfl
     conv=>arg 10;simp only[Act.put,zq0,zq1,zq2]
    refine FS.wpF_spec rfl rfl rfl (fun w' hw'=>?_) ?_
    ·have hb':=hw'.world;refine FS.gives_of (FS.PM (fun b:Nat=>Value.slice (some ⟨b,0,none⟩) 1 1) (fun b w'=>NewT w' w102.heap.size b (t.m.mul um) (q*uq)) (fun _ _=>False) w'.heap.size) ?_ (fun _ _ h=>h.post (fun _ _ h=>by cases h;rfl));go_simp;have f8:=FS.made_of (val:=(fun x:FV=>x.v)) (Φ:=fun x w'=>EF w' w102.heap.size x (q*uq)) (fun _ _=>FV.inj) (hw'.fact2 10 8 (by kernel_rfl) (by kernel_rfl));exact⟨⟨w'.heap.size,rfl,⟨⟨y8,Bxs.new w' _ (TV.cells ⟨y8,(t.m.mul um)⟩),f8.alloc _⟩⟩,fun _ h=>False.elim h⟩,(Below.refl _ _).alloc (Nat.le_refl _) _⟩
    rintro _ ⟨y11,rfl⟩
    conv=>arg 10;simp only[Act.put,zq0,zq1,zq2]
    refine FS.wpF_nil (fun w201 hb hF=>?_);obtain⟨⟨yy204,hB,hE⟩⟩:=FS.made_of (val:=(fun b:Nat=>Value.slice (some ⟨b,0,none⟩) 1 1)) (Φ:=fun b w'=>NewT w' w102.heap.size b (t.m.mul um) (q*uq)) (fun _ _ h=>by cases h;rfl) (hF.all 11);have NB202:=qh hB;have NE203:=qh hE;clear hB hE;clear hF;have NF:=qh (NF.out.below hb);have NU:=qh (NU.out.below hb);have ERR:=qh (ERR.out.below hb);have KW:=qh (KW.out.below hb);have B3:=qh (B3.out.below hb B3.out.lt);have BX101:=qh (BX101.out.below hb BX101.out.lt);have KG:=qk KG hb;clear hb;go_wp2_with (first | (at_builtin;refine wpList_pushE (t:=⟨yy204,(t.m.mul um)⟩) rfl _ _ rfl rfl ERR.out (by have:=HOL.out;have:=HZN.out;omega) KW.out.b.size rfl NB202.out (NE203.out.mono HLO.out) rfl ?_))
    intro z9 w9 her9 hb9;obtain⟨za9,zn9,zc9⟩:=z9;have ER9:=qh her9;have HB9:=qh hb9;clear her9 hb9;have ek1:IntKind.i64.wrap ((k:Int)+1)=(k:Int)+1:=IntWalk.i64_in _ (by have:=HKL.out;have:=HZN.out;omega);go_wp2_with fail
    go_roundw
    case rel =>
     refine⟨k+1,⟨za9,zn9,zc9⟩,L++[(⟨yy204,t.m.mul um⟩,q*uq)],rfl,rfl,HKL.out,ER9.out,?_,fun v hv=>?_,KW.out.b.trans HB9.out⟩
     ·rw[List.map_append,HL.out,List.take_add_one,HTP.out,List.map_append]
      rfl
     ·rw[List.take_add_one,HTP.out] at hv
      rcases List.mem_append.1 hv with hv | hv
      ·exact HAS.out v hv
      ·obtain rfl:v=(t.m,q):=by simpa using hv
       exact HSM.out
    case measure=>simp[intOf];have:=HKL.out;omega
   ·have HSM:=qh hs;clear hs
    go_upto_region 5 with (fail)
    refine FS.wp_region_fresh 13 [(12,11)] (FS.spOf [(7,FS.Sp.know (.tuple #[.agg #[.int .u16 0,.int .u16 0,.int .u16 0,.int .u16 0],.int .i64 3])),(11,FS.Sp.box 30 4 wr.heap.size)])
     (fun w'=>Below wr.heap.size wr w') (by kernel_rfl) (by kernel_rfl) (by kernel_rfl)
     (FS.spOf_cons (FS.Sp.know_keeps _ _) (FS.spOf_cons (FS.Sp.box_keeps _ _ _ _) (FS.spOf_nil))) (fun _ _ h hb=>h.trans (hb.mono h.size)) ((Below.refl _ _).drew) ?_
    simp only[List.append_eq,List.cons_append,List.nil_append,List.take_succ_cons,List.take_zero,List.drop_succ_cons,List.drop_zero]
    iterate 7
     refine FS.wpF_reads rfl rfl rfl ?_ (fun w' hw'=>?_) ?_;rotate_left
     ·have hb':=hw'.world;obtain⟨hs0,hs1,hs2,hs3,hs4,hs5,hs6,hs7⟩:=(E1.out.below hb').eight;have hs0:=(B3.out.below hb' B3.out.lt).cell (i:=0) rfl;have hs1:=(B3.out.below hb' B3.out.lt).cell (i:=1) rfl;have hs2:=(B3.out.below hb' B3.out.lt).cell (i:=2) rfl;have hs3:=(B3.out.below hb' B3.out.lt).cell (i:=3) rfl;have hs4:=(B3.out.below hb' B3.out.lt).cell (i:=4) rfl;have hs5:=(B3.out.below hb' B3.out.lt).cell (i:=5) rfl;have hs6:=(B3.out.below hb' B3.out.lt).cell (i:=6) rfl;have hs7:=(B3.out.below hb' B3.out.lt).cell (i:=7) rfl;have hsf:=(B3.out.below hb' B3.out.lt).fz;have hsl:=(B3.out.below hb' B3.out.lt).lt;clear hw';go_simp
      try rfl
     conv=>arg 10;simp only[Act.put,zq0,zq1,zq2]
    refine FS.wpF_spec rfl rfl rfl (fun w' hw'=>?_) ?_
    ·have hb':=hw'.world;refine FS.gives_of (FS.PK (.tuple #[.agg #[.int .u16 0,.int .u16 0,.int .u16 0,.int .u16 0],.int .i64 3])) ?_ (fun _ _ h=>h.post);go_simp;have CT:=(show Calls Tryz.prog 55 #[.agg #[.int .u16 t.m.x,.int .u16 t.m.y,.int .u16 t.m.z,.int .u16 t.m.t],.agg #[.int .u16 um.x,.int .u16 um.y,.int .u16 um.z,.int .u16 um.t]] w' _ from rmono_mulX t.m um w' HST.out HSU.out HSM.out);refine CT.mono ?_;rintro e w'' ⟨rfl,hb⟩;exact⟨_,rfl,rfl,hb⟩
    rintro _ rfl
    conv=>arg 10;simp only[Act.put,zq0,zq1,zq2]
    iterate 3
     refine FS.wpF_reads rfl rfl rfl ?_ (fun w' hw'=>?_) ?_;rotate_left
     ·have hb':=hw'.world;skip;clear hw';go_simp
      try rfl
     conv=>arg 10;simp only[Act.put,zq0,zq1,zq2]
    refine FS.wpF_spec rfl rfl rfl (fun w' hw'=>?_) ?_
    ·have hb':=hw'.world;refine FS.gives_of (FS.PB 30 4 wr.heap.size w'.heap.size) ?_ (fun _ _ h=>h.post);go_simp;exact⟨FS.PB.new _ rfl hb'.size,(Below.refl _ _).alloc (Nat.le_refl _) _⟩
    rintro _ ⟨y11,rfl⟩
    conv=>arg 10;simp only[Act.put,zq0,zq1,zq2]
    refine FS.wpF_store rfl rfl 11 rfl rfl rfl rfl (fun _=>Iff.rfl) (fun w' hw'=>?_) ?_
    ·have hb':=hw'.world;have hX:=FS.box_of (hw'.fact 11 (by kernel_rfl));obtain⟨c0,c1,c2,c3,hB⟩:=shp4 hX.1;have m0:=hB.cell (i:=0) rfl;have m1:=hB.cell (i:=1) rfl;have m2:=hB.cell (i:=2) rfl;have m3:=hB.cell (i:=3) rfl;have mf:=hB.fz;have ml:=hB.lt;refine FS.stores_of ?_ (store4 hb' hX.2 hB (.int .u16 0) (.int .u16 0) (.int .u16 0) (.int .u16 0));clear hw';go_simp
     try rfl
    conv=>arg 10;simp only[Act.put,zq0,zq1,zq2]
    refine FS.wpF_nil (fun w102 hb hF=>?_);have BX101:=qh (show Bxs w102 y11 30 [.int .u16 0,.int .u16 0,.int .u16 0,.int .u16 0] from stored_bxs (hF.all 12));clear hF;have NU:=qh (NU.out.below hb);have ERR:=qh (ERR.out.below hb);have KW:=qh (KW.out.below hb);have B3:=qh (B3.out.below hb B3.out.lt);have KG:=qk KG hb;clear hb;go_wp2_with fail
    go_ret2;exact Or.inr ⟨rfl,⟨_,List.mem_of_getElem? HTP.out,HSM.out⟩,KG.out⟩
  ·have HKE:=qh (show k=zn by have:=HKZ.out;omega)
   have hge:¬((k:Int)<(zn:Int)):=by omega
   clear hkl;go_wp2_with fail
   go_ret2;have hall:P.take k=P:=List.take_of_length_le (by rw[HKE.out,HPL.out];exact Nat.le_refl _);have hL:=HL.out;have hsm:=HAS.out;rw[hall] at hL hsm;have hm:=times_map (m:=um) FZ.out.canon HZU.out;refine Or.inl ⟨⟨oa,on,oc⟩,rfl,fun a b h=>hsm (a,b) h,⟨⟨L,ERR.out.mono HLW.out,by rw[hL,hm]⟩,mulP_canon _ _,fun v hv=>?_⟩,KG.out⟩;rw[hm] at hv;obtain⟨u,hu,rfl⟩:=List.mem_map.1 hv;exact hsm u hu
theorem rtimes_ok (x:PV) (P:List Tm) (y:FV) (um:Mo) (uq:Rat) (w:World) (hx:KP w x P) (hq:∀ t∈P,LQ t.2 900000) (hxn:x.n≤1000000) (hy:KF w y uq) (hyl:LF y 900000) (hu:um.Small) (hz:uq≠0) (hs:∀ t∈P,(t.1.mul um).Small) :
  Calls Tryz.prog 25 #[x.v,TV.v ⟨y,um⟩] w fun e w'=>∃ z:PV,e=.returned (.tuple #[z.v,.int .i64 0])∧EP w' w.heap.size z (mulP P [(um,uq)])∧Below w.heap.size w w' :=
 (rtimes_any x P y um uq w hx hq hxn hy hyl hu hz).mono fun e w' h=>by
  rcases h with ⟨z,e1,-,h1,hb⟩ | ⟨-,⟨t,ht,h1⟩,-⟩
  ·exact⟨z,e1,h1,hb⟩
  ·exact absurd (hs t ht) h1
theorem rtimes_no (x:PV) (P:List Tm) (y:FV) (um:Mo) (uq:Rat) (w:World) (hx:KP w x P) (hq:∀ t∈P,LQ t.2 900000) (hxn:x.n≤1000000) (hy:KF w y uq) (hyl:LF y 900000) (hu:um.Small) (hz:uq≠0) (hs:¬ ∀ t∈P,(t.1.mul um).Small) :
  Calls Tryz.prog 25 #[x.v,TV.v ⟨y,um⟩] w fun e w'=>e=.returned (.tuple #[.slice none 0 0,.int .i64 3])∧Below w.heap.size w w' :=
 (rtimes_any x P y um uq w hx hq hxn hy hyl hu hz).mono fun e w' h=>by
  rcases h with ⟨z,e1,h1,-,-⟩ | ⟨e1,-,hb⟩
  ·exact absurd h1 hs
  ·exact⟨e1,hb⟩
theorem scale_lq {Q:List Tm} {k:Nat} (hc:Canon Q) (h:∀ t∈Q,LQ t.2 k):∀ t∈scaleP (-1) Q,LQ t.2 k:=fun t ht=>by
 rw[scaleP_map hc (by decide +kernel)] at ht;obtain⟨u,hu,rfl⟩:=List.mem_map.1 ht;show LQ (u.2*(-1)) k;rw[show u.2*(-1) = -u.2 by grind];exact(h u hu).neg
theorem scale_one {Q:List Tm} (hc:Canon Q):scaleP 1 Q=Q:=canon_same (scaleP_canon _ _) hc fun f=>by rw[ev_scaleP,Rat.one_mul]
theorem rsub_any (x y:PV) (P Q:List Tm) (w:World) (hx:AP w x P) (hy:AP w y Q) (hc:Canon Q) (hp:∀ t∈P,LQ t.2 400000) (hq:∀ t∈Q,LQ t.2 400000) (hxn:x.n≤400000000) (hyn:y.n≤1000000) (hql:Q.length≤1000000) :
  Calls Tryz.prog 24 #[x.v,y.v] w fun e w'=>∃ z:PV,e=.returned z.v∧EP w' w.heap.size z (subP P Q)∧Below w.heap.size w w':=by
 obtain⟨xa,xn,xc⟩:=x;obtain⟨ya,yn,yc⟩:=y;have CO:=qh (show Calls Tryz.prog 21 #[.int .i64 (-1)] w _ from rofV (-1) w (by omega) (by omega));have HX:=qh hx;have HY:=qh hy;have HCQ:=qh hc;have HLP:=qh hp;have HLQ:=qh hq;have HXN:=qh hxn;have HYN:=qh hyn;have HQL:=qh (show(scaleP (-1) Q).length≤1000000 by rw[scaleP_map hc (by decide +kernel)];unfold scaleL;rw[List.length_map];exact hql);clear hx hy hc hp hq hxn hyn hql;change Calls Tryz.prog 24 #[.slice xa xn xc,.slice ya yn yc] w _;go_enter Tryz.func24,Tryz.ntmps24;go_wp2_with fail
 with_reducible refine CO.out.mono ?_
 rintro e w1 ⟨d,rfl,hd,hb⟩;have KG:=qh hb;have CS:=qh (show Calls Tryz.prog 20 #[.slice ya yn yc,.agg #[.bool d.t.s,.slice d.t.a d.t.n d.t.c,.bool d.l.s,.slice d.l.a d.l.n d.l.c]] w1 _ from rscale_any ⟨ya,yn,yc⟩ Q d (-1:Rat) w1 (HY.out.below hb) (fun t ht=>(HLQ.out t ht).up (by omega)) HYN.out hd.k.any (hd.k.len (LQ.int (n:=-1) (by omega) (by omega)) (by omega)) ((LQ.int (n:=-1) (by omega) (by omega)).up (by omega)));clear hd hb CO;go_wp2_with fail
 with_reducible refine CS.out.mono ?_
 rintro e w2 ⟨⟨sa,sn,sc⟩,he,hs,hb⟩;obtain rfl:e=.returned (.slice sa sn sc):=he;have KG:=qk KG hb;have HSZ:=qh KG.out.size;have CA:=qh (show Calls Tryz.prog 23 #[.slice xa xn xc,.slice sa sn sc] w2 _ from radd_any ⟨xa,xn,xc⟩ ⟨sa,sn,sc⟩ P (scaleP (-1) Q) w2 (HX.out.below KG.out) hs.k.any HLP.out (scale_lq HCQ.out HLQ.out) HXN.out (by rw[hs.k.len];have:=HQL.out;omega));clear hs hb CS;go_wp2_with fail
 with_reducible refine CA.out.mono ?_
 rintro e w3 ⟨⟨ra,rn,rc⟩,he,hs,hb⟩;obtain rfl:e=.returned (.slice ra rn rc):=he;have KG2:=qh (KG.out.trans (hb.mono KG.out.size));have HR:=qh (hs.mono HSZ.out);clear hs hb CA;go_wp2_with fail
 go_ret;exact⟨⟨ra,rn,rc⟩,rfl,HR.out,KG2.out⟩
theorem rby_n (a b:TV) (w:World) (hsa:a.m.Small) (hsb:b.m.Small) (hs:¬b.m.stands a.m) :
  Calls Tryz.prog 22 #[TV.v a,TV.v b] w fun e w'=>e=.returned (.tuple #[.agg #[.bool false,.slice none 0 0,.bool false,.slice none 0 0,.int .u16 0,.int .u16 0,.int .u16 0,.int .u16 0],.bool false])∧Below w.heap.size w w':=by
 obtain⟨V,hV⟩:∃ V,V=((w.alloc (.cells #[.bool a.c.t.s,.slice a.c.t.a a.c.t.n a.c.t.c,.bool a.c.l.s,.slice a.c.l.a a.c.l.n a.c.l.c,.int .u16 a.m.x,.int .u16 a.m.y,.int .u16 a.m.z,.int .u16 a.m.t] 32)).alloc (.cells #[.bool b.c.t.s,.slice b.c.t.a b.c.t.n b.c.t.c,.bool b.c.l.s,.slice b.c.l.a b.c.l.n b.c.l.c,.int .u16 b.m.x,.int .u16 b.m.y,.int .u16 b.m.z,.int .u16 b.m.t] 32)).alloc (.cells #[.bool false,.slice none 0 0,.bool false,.slice none 0 0,.int .u16 0,.int .u16 0,.int .u16 0,.int .u16 0] 32):=⟨_,rfl⟩
 have hbV:Below w.heap.size w V:=by rw[hV];exact(((Below.refl _ _).alloc (Nat.le_refl _) _).alloc (by go_size) _).alloc (by go_size) _
 have B2:=qh (show Bxs V w.heap.size 32 [.bool a.c.t.s,.slice a.c.t.a a.c.t.n a.c.t.c,.bool a.c.l.s,.slice a.c.l.a a.c.l.n a.c.l.c,.int .u16 a.m.x,.int .u16 a.m.y,.int .u16 a.m.z,.int .u16 a.m.t] by rw[hV];exact((Bxs.new w 32 [.bool a.c.t.s,.slice a.c.t.a a.c.t.n a.c.t.c,.bool a.c.l.s,.slice a.c.l.a a.c.l.n a.c.l.c,.int .u16 a.m.x,.int .u16 a.m.y,.int .u16 a.m.z,.int .u16 a.m.t]).alloc _).alloc _)
 have B3:=qh (show Bxs V (w.heap.size+1) 32 [.bool b.c.t.s,.slice b.c.t.a b.c.t.n b.c.t.c,.bool b.c.l.s,.slice b.c.l.a b.c.l.n b.c.l.c,.int .u16 b.m.x,.int .u16 b.m.y,.int .u16 b.m.z,.int .u16 b.m.t] by
  have h:=Bxs.new (w.alloc (.cells #[.bool a.c.t.s,.slice a.c.t.a a.c.t.n a.c.t.c,.bool a.c.l.s,.slice a.c.l.a a.c.l.n a.c.l.c,.int .u16 a.m.x,.int .u16 a.m.y,.int .u16 a.m.z,.int .u16 a.m.t] 32)) 32 [.bool b.c.t.s,.slice b.c.t.a b.c.t.n b.c.t.c,.bool b.c.l.s,.slice b.c.l.a b.c.l.n b.c.l.c,.int .u16 b.m.x,.int .u16 b.m.y,.int .u16 b.m.z,.int .u16 b.m.t];rw[World.size_alloc] at h
  rw[hV];exact h.alloc _)
 have B4:=qh (show Bxs V (w.heap.size+1+1) 32 [.bool false,.slice none 0 0,.bool false,.slice none 0 0,.int .u16 0,.int .u16 0,.int .u16 0,.int .u16 0] by
  have h:=Bxs.new ((w.alloc (.cells #[.bool a.c.t.s,.slice a.c.t.a a.c.t.n a.c.t.c,.bool a.c.l.s,.slice a.c.l.a a.c.l.n a.c.l.c,.int .u16 a.m.x,.int .u16 a.m.y,.int .u16 a.m.z,.int .u16 a.m.t] 32)).alloc (.cells #[.bool b.c.t.s,.slice b.c.t.a b.c.t.n b.c.t.c,.bool b.c.l.s,.slice b.c.l.a b.c.l.n b.c.l.c,.int .u16 b.m.x,.int .u16 b.m.y,.int .u16 b.m.z,.int .u16 b.m.t] 32)) 32 [.bool false,.slice none 0 0,.bool false,.slice none 0 0,.int .u16 0,.int .u16 0,.int .u16 0,.int .u16 0];rw[World.size_alloc,World.size_alloc] at h
  rw[hV];exact h)
 obtain⟨A4,hA4⟩:∃ A,A=w.heap.size+1+1:=⟨_,rfl⟩;have HA4:=qh (show w.heap.size≤A4 by omega);rw[← hA4] at B4;have HA5:=qh hA4;have KG:=qh hbV;have HV:=qh hV;have CD:=qh (show Calls Tryz.prog 52 #[.agg #[.int .u16 a.m.x,.int .u16 a.m.y,.int .u16 a.m.z,.int .u16 a.m.t],.agg #[.int .u16 b.m.x,.int .u16 b.m.y,.int .u16 b.m.z,.int .u16 b.m.t]] V _ from rmono_divN a.m b.m V hsa hsb hs);clear hV hbV hsa hsb hs hA4;change Calls Tryz.prog 22 #[.agg #[.bool a.c.t.s,.slice a.c.t.a a.c.t.n a.c.t.c,.bool a.c.l.s,.slice a.c.l.a a.c.l.n a.c.l.c,.int .u16 a.m.x,.int .u16 a.m.y,.int .u16 a.m.z,.int .u16 a.m.t],.agg #[.bool b.c.t.s,.slice b.c.t.a b.c.t.n b.c.t.c,.bool b.c.l.s,.slice b.c.l.a b.c.l.n b.c.l.c,.int .u16 b.m.x,.int .u16 b.m.y,.int .u16 b.m.z,.int .u16 b.m.t]] w _;go_enter Tryz.func22,Tryz.ntmps22
 go_upto_region 1 with (fail)
 rw[show((w.alloc (.cells #[.bool a.c.t.s,.slice a.c.t.a a.c.t.n a.c.t.c,.bool a.c.l.s,.slice a.c.l.a a.c.l.n a.c.l.c,.int .u16 a.m.x,.int .u16 a.m.y,.int .u16 a.m.z,.int .u16 a.m.t] 32)).alloc (.cells #[.bool b.c.t.s,.slice b.c.t.a b.c.t.n b.c.t.c,.bool b.c.l.s,.slice b.c.l.a b.c.l.n b.c.l.c,.int .u16 b.m.x,.int .u16 b.m.y,.int .u16 b.m.z,.int .u16 b.m.t] 32)).alloc (.cells #[.bool false,.slice none 0 0,.bool false,.slice none 0 0,.int .u16 0,.int .u16 0,.int .u16 0,.int .u16 0] 32)=V from HV.out.symm,show w.heap.size+1+1=A4 from HA5.out.symm];have c20:=B2.out.cell (i:=0) rfl;have c21:=B2.out.cell (i:=1) rfl;have c22:=B2.out.cell (i:=2) rfl;have c23:=B2.out.cell (i:=3) rfl;have c24:=B2.out.cell (i:=4) rfl;have c25:=B2.out.cell (i:=5) rfl;have c26:=B2.out.cell (i:=6) rfl;have c27:=B2.out.cell (i:=7) rfl;have c30:=B3.out.cell (i:=0) rfl;have c31:=B3.out.cell (i:=1) rfl;have c32:=B3.out.cell (i:=2) rfl;have c33:=B3.out.cell (i:=3) rfl;have c34:=B3.out.cell (i:=4) rfl;have c35:=B3.out.cell (i:=5) rfl;have c36:=B3.out.cell (i:=6) rfl;have c37:=B3.out.cell (i:=7) rfl;go_wp2_with fail
 with_reducible refine CD.out.mono ?_
 rintro e w1 ⟨rfl,hb⟩;have B2:=qh (B2.out.below hb B2.out.lt);have B3:=qh (B3.out.below hb B3.out.lt);have B4:=qh (B4.out.below hb B4.out.lt);have KG:=qk KG hb;clear CD c20 c21 c22 c23 c24 c25 c26 c27 c30 c31 c32 c33 c34 c35 c36 c37;clear hb
 go_upto_region 2 with (fail)
 obtain⟨W,hW⟩:∃ W,W=w1.alloc (.cells #[.int .u16 0,.int .u16 0,.int .u16 0,.int .u16 0] 30):=⟨_,rfl⟩
 have hbW:Below w1.heap.size w1 W:=by rw[hW];exact(Below.refl _ _).alloc (Nat.le_refl _) _
 obtain⟨A6,hA6⟩:∃ A,A=w1.heap.size:=⟨_,rfl⟩;rw[← hW,← hA6];have B4:=qh (B4.out.below hbW B4.out.lt);have KG:=qk KG hbW;clear hW hbW hA6;have c40:=B4.out.cell (i:=0) rfl;have c41:=B4.out.cell (i:=1) rfl;have c42:=B4.out.cell (i:=2) rfl;have c43:=B4.out.cell (i:=3) rfl;have c44:=B4.out.cell (i:=4) rfl;have c45:=B4.out.cell (i:=5) rfl;have c46:=B4.out.cell (i:=6) rfl;have c47:=B4.out.cell (i:=7) rfl;have c4f:=B4.out.fz;have c4l:=B4.out.lt;go_wp2_with fail
 exact bodyPost_ret (results_ct rfl _ _ _ _ _ _ _ rfl (put8_bxs B4.out ..) Tryz.underlying32 rfl (by kernel_rfl)) rfl ⟨rfl,put8_below KG.out HA4.out ..⟩
theorem rby_y (a b:TV) (p q:Rat) (w:World) (ha:KF w a.c p) (la:LF a.c 900000) (hb0:KF w b.c q) (lb:LF b.c 900000) (hsa:a.m.Small) (hsb:b.m.Small) (hs:b.m.stands a.m) (hz:q≠0) :
  Calls Tryz.prog 22 #[TV.v a,TV.v b] w fun e w'=>∃ y:FV,e=.returned (.tuple #[TV.v ⟨y,a.m.quo b.m⟩,.bool true])∧EF w' w.heap.size y (p/q)∧Below w.heap.size w w':=by
 obtain⟨V,hV⟩:∃ V,V=((w.alloc (.cells #[.bool a.c.t.s,.slice a.c.t.a a.c.t.n a.c.t.c,.bool a.c.l.s,.slice a.c.l.a a.c.l.n a.c.l.c,.int .u16 a.m.x,.int .u16 a.m.y,.int .u16 a.m.z,.int .u16 a.m.t] 32)).alloc (.cells #[.bool b.c.t.s,.slice b.c.t.a b.c.t.n b.c.t.c,.bool b.c.l.s,.slice b.c.l.a b.c.l.n b.c.l.c,.int .u16 b.m.x,.int .u16 b.m.y,.int .u16 b.m.z,.int .u16 b.m.t] 32)).alloc (.cells #[.bool false,.slice none 0 0,.bool false,.slice none 0 0,.int .u16 0,.int .u16 0,.int .u16 0,.int .u16 0] 32):=⟨_,rfl⟩
 have hbV:Below w.heap.size w V:=by rw[hV];exact(((Below.refl _ _).alloc (Nat.le_refl _) _).alloc (by go_size) _).alloc (by go_size) _
 have B2:=qh (show Bxs V w.heap.size 32 [.bool a.c.t.s,.slice a.c.t.a a.c.t.n a.c.t.c,.bool a.c.l.s,.slice a.c.l.a a.c.l.n a.c.l.c,.int .u16 a.m.x,.int .u16 a.m.y,.int .u16 a.m.z,.int .u16 a.m.t] by rw[hV];exact((Bxs.new w 32 [.bool a.c.t.s,.slice a.c.t.a a.c.t.n a.c.t.c,.bool a.c.l.s,.slice a.c.l.a a.c.l.n a.c.l.c,.int .u16 a.m.x,.int .u16 a.m.y,.int .u16 a.m.z,.int .u16 a.m.t]).alloc _).alloc _)
 have B3:=qh (show Bxs V (w.heap.size+1) 32 [.bool b.c.t.s,.slice b.c.t.a b.c.t.n b.c.t.c,.bool b.c.l.s,.slice b.c.l.a b.c.l.n b.c.l.c,.int .u16 b.m.x,.int .u16 b.m.y,.int .u16 b.m.z,.int .u16 b.m.t] by
  have h:=Bxs.new (w.alloc (.cells #[.bool a.c.t.s,.slice a.c.t.a a.c.t.n a.c.t.c,.bool a.c.l.s,.slice a.c.l.a a.c.l.n a.c.l.c,.int .u16 a.m.x,.int .u16 a.m.y,.int .u16 a.m.z,.int .u16 a.m.t] 32)) 32 [.bool b.c.t.s,.slice b.c.t.a b.c.t.n b.c.t.c,.bool b.c.l.s,.slice b.c.l.a b.c.l.n b.c.l.c,.int .u16 b.m.x,.int .u16 b.m.y,.int .u16 b.m.z,.int .u16 b.m.t];rw[World.size_alloc] at h
  rw[hV];exact h.alloc _)
 have B4:=qh (show Bxs V (w.heap.size+1+1) 32 [.bool false,.slice none 0 0,.bool false,.slice none 0 0,.int .u16 0,.int .u16 0,.int .u16 0,.int .u16 0] by
  have h:=Bxs.new ((w.alloc (.cells #[.bool a.c.t.s,.slice a.c.t.a a.c.t.n a.c.t.c,.bool a.c.l.s,.slice a.c.l.a a.c.l.n a.c.l.c,.int .u16 a.m.x,.int .u16 a.m.y,.int .u16 a.m.z,.int .u16 a.m.t] 32)).alloc (.cells #[.bool b.c.t.s,.slice b.c.t.a b.c.t.n b.c.t.c,.bool b.c.l.s,.slice b.c.l.a b.c.l.n b.c.l.c,.int .u16 b.m.x,.int .u16 b.m.y,.int .u16 b.m.z,.int .u16 b.m.t] 32)) 32 [.bool false,.slice none 0 0,.bool false,.slice none 0 0,.int .u16 0,.int .u16 0,.int .u16 0,.int .u16 0];rw[World.size_alloc,World.size_alloc] at h
  rw[hV];exact h)
 obtain⟨A4,hA4⟩:∃ A,A=w.heap.size+1+1:=⟨_,rfl⟩;have HA4:=qh (show w.heap.size≤A4 by omega);rw[← hA4] at B4;have HA5:=qh hA4;have KG:=qh hbV;have HV:=qh hV;have CD:=qh (show Calls Tryz.prog 52 #[.agg #[.int .u16 a.m.x,.int .u16 a.m.y,.int .u16 a.m.z,.int .u16 a.m.t],.agg #[.int .u16 b.m.x,.int .u16 b.m.y,.int .u16 b.m.z,.int .u16 b.m.t]] V _ from rmono_div a.m b.m V hsa hsb hs);have FA:=qh (ha.below hbV);have FB:=qh (hb0.below hbV);have LA:=qh la;have LB:=qh lb;have HZ:=qh hz;clear hV hbV hsa hsb hs hA4 ha la hb0 lb hz;change Calls Tryz.prog 22 #[.agg #[.bool a.c.t.s,.slice a.c.t.a a.c.t.n a.c.t.c,.bool a.c.l.s,.slice a.c.l.a a.c.l.n a.c.l.c,.int .u16 a.m.x,.int .u16 a.m.y,.int .u16 a.m.z,.int .u16 a.m.t],.agg #[.bool b.c.t.s,.slice b.c.t.a b.c.t.n b.c.t.c,.bool b.c.l.s,.slice b.c.l.a b.c.l.n b.c.l.c,.int .u16 b.m.x,.int .u16 b.m.y,.int .u16 b.m.z,.int .u16 b.m.t]] w _;go_enter Tryz.func22,Tryz.ntmps22
 go_upto_region 1 with (fail)
 rw[show((w.alloc (.cells #[.bool a.c.t.s,.slice a.c.t.a a.c.t.n a.c.t.c,.bool a.c.l.s,.slice a.c.l.a a.c.l.n a.c.l.c,.int .u16 a.m.x,.int .u16 a.m.y,.int .u16 a.m.z,.int .u16 a.m.t] 32)).alloc (.cells #[.bool b.c.t.s,.slice b.c.t.a b.c.t.n b.c.t.c,.bool b.c.l.s,.slice b.c.l.a b.c.l.n b.c.l.c,.int .u16 b.m.x,.int .u16 b.m.y,.int .u16 b.m.z,.int .u16 b.m.t] 32)).alloc (.cells #[.bool false,.slice none 0 0,.bool false,.slice none 0 0,.int .u16 0,.int .u16 0,.int .u16 0,.int .u16 0] 32)=V from HV.out.symm,show w.heap.size+1+1=A4 from HA5.out.symm];have c20:=B2.out.cell (i:=0) rfl;have c21:=B2.out.cell (i:=1) rfl;have c22:=B2.out.cell (i:=2) rfl;have c23:=B2.out.cell (i:=3) rfl;have c24:=B2.out.cell (i:=4) rfl;have c25:=B2.out.cell (i:=5) rfl;have c26:=B2.out.cell (i:=6) rfl;have c27:=B2.out.cell (i:=7) rfl;have c30:=B3.out.cell (i:=0) rfl;have c31:=B3.out.cell (i:=1) rfl;have c32:=B3.out.cell (i:=2) rfl;have c33:=B3.out.cell (i:=3) rfl;have c34:=B3.out.cell (i:=4) rfl;have c35:=B3.out.cell (i:=5) rfl;have c36:=B3.out.cell (i:=6) rfl;have c37:=B3.out.cell (i:=7) rfl;go_wp2_with fail
 with_reducible refine CD.out.mono ?_
 rintro e w1 ⟨rfl,hb⟩;have B2:=qh (B2.out.below hb B2.out.lt);have B3:=qh (B3.out.below hb B3.out.lt);have B4:=qh (B4.out.below hb B4.out.lt);have KG:=qk KG hb;clear CD c20 c21 c22 c23 c24 c25 c26 c27 c30 c31 c32 c33 c34 c35 c36 c37;have FA:=qh (FA.out.below hb);have FB:=qh (FB.out.below hb);clear hb
 go_upto_region 4 with (fail)
 obtain⟨W,hW⟩:∃ W,W=w1.alloc (.cells #[.int .u16 (a.m.quo b.m).x,.int .u16 (a.m.quo b.m).y,.int .u16 (a.m.quo b.m).z,.int .u16 (a.m.quo b.m).t] 30):=⟨_,rfl⟩
 have hbW:Below w1.heap.size w1 W:=by rw[hW];exact(Below.refl _ _).alloc (Nat.le_refl _) _
 have B6:=qh (show Bxs W w1.heap.size 30 [.int .u16 (a.m.quo b.m).x,.int .u16 (a.m.quo b.m).y,.int .u16 (a.m.quo b.m).z,.int .u16 (a.m.quo b.m).t] by rw[hW];exact Bxs.new w1 30 [.int .u16 (a.m.quo b.m).x,.int .u16 (a.m.quo b.m).y,.int .u16 (a.m.quo b.m).z,.int .u16 (a.m.quo b.m).t]);obtain⟨A6,hA6⟩:∃ A,A=w1.heap.size:=⟨_,rfl⟩;rw[← hW,← hA6];rw[← hA6] at B6;have B2:=qh (B2.out.below hbW B2.out.lt);have B3:=qh (B3.out.below hbW B3.out.lt);have B4:=qh (B4.out.below hbW B4.out.lt);have KG:=qk KG hbW;have HSZ:=qh KG.out.size;have CQ:=qh (show Calls Tryz.prog 53 #[.agg #[.bool a.c.t.s,.slice a.c.t.a a.c.t.n a.c.t.c,.bool a.c.l.s,.slice a.c.l.a a.c.l.n a.c.l.c],.agg #[.bool b.c.t.s,.slice b.c.t.a b.c.t.n b.c.t.c,.bool b.c.l.s,.slice b.c.l.a b.c.l.n b.c.l.c]] W _ from rdivV (x:=a.c) (y:=b.c) (FA.out.below hbW) LA.out (FB.out.below hbW) LB.out HZ.out);clear hW hbW hA6 FA FB;have c20:=B2.out.cell (i:=0) rfl;have c21:=B2.out.cell (i:=1) rfl;have c22:=B2.out.cell (i:=2) rfl;have c23:=B2.out.cell (i:=3) rfl;have c24:=B2.out.cell (i:=4) rfl;have c25:=B2.out.cell (i:=5) rfl;have c26:=B2.out.cell (i:=6) rfl;have c27:=B2.out.cell (i:=7) rfl;have c30:=B3.out.cell (i:=0) rfl;have c31:=B3.out.cell (i:=1) rfl;have c32:=B3.out.cell (i:=2) rfl;have c33:=B3.out.cell (i:=3) rfl;have c34:=B3.out.cell (i:=4) rfl;have c35:=B3.out.cell (i:=5) rfl;have c36:=B3.out.cell (i:=6) rfl;have c37:=B3.out.cell (i:=7) rfl;go_wp2_with fail
 with_reducible refine CQ.out.mono ?_
 rintro e w2 ⟨y,rfl,hy,hb⟩;have B6:=qh (B6.out.below hb B6.out.lt);have B4:=qh (B4.out.below hb B4.out.lt);have KG:=qk KG hb;have HY:=qh (hy.mono HSZ.out);clear hy hb CQ B2 B3 c20 c21 c22 c23 c24 c25 c26 c27 c30 c31 c32 c33 c34 c35 c36 c37
 go_upto_region 5 with (fail)
 obtain⟨U,hU⟩:∃ U,U=w2.alloc (.cells #[.bool y.t.s,.slice y.t.a y.t.n y.t.c,.bool y.l.s,.slice y.l.a y.l.n y.l.c] 28):=⟨_,rfl⟩
 have hbU:Below w2.heap.size w2 U:=by rw[hU];exact(Below.refl _ _).alloc (Nat.le_refl _) _
 have B8:=qh (show Bxs U w2.heap.size 28 [.bool y.t.s,.slice y.t.a y.t.n y.t.c,.bool y.l.s,.slice y.l.a y.l.n y.l.c] by rw[hU];exact Bxs.new w2 28 [.bool y.t.s,.slice y.t.a y.t.n y.t.c,.bool y.l.s,.slice y.l.a y.l.n y.l.c]);obtain⟨A8,hA8⟩:∃ A,A=w2.heap.size:=⟨_,rfl⟩;rw[← hU,← hA8];rw[← hA8] at B8;have B6:=qh (B6.out.below hbU B6.out.lt);have B4:=qh (B4.out.below hbU B4.out.lt);have KG:=qk KG hbU;have HY:=qh (HY.out.below hbU);clear hU hbU hA8;have c80:=B8.out.cell (i:=0) rfl;have c81:=B8.out.cell (i:=1) rfl;have c82:=B8.out.cell (i:=2) rfl;have c83:=B8.out.cell (i:=3) rfl;have c60:=B6.out.cell (i:=0) rfl;have c61:=B6.out.cell (i:=1) rfl;have c62:=B6.out.cell (i:=2) rfl;have c63:=B6.out.cell (i:=3) rfl;have c40:=B4.out.cell (i:=0) rfl;have c41:=B4.out.cell (i:=1) rfl;have c42:=B4.out.cell (i:=2) rfl;have c43:=B4.out.cell (i:=3) rfl;have c44:=B4.out.cell (i:=4) rfl;have c45:=B4.out.cell (i:=5) rfl;have c46:=B4.out.cell (i:=6) rfl;have c47:=B4.out.cell (i:=7) rfl;have c4f:=B4.out.fz;have c4l:=B4.out.lt;have HD:=qh (show EF (put8 U A4 (.bool y.t.s) (.slice y.t.a y.t.n y.t.c) (.bool y.l.s) (.slice y.l.a y.l.n y.l.c) (.int .u16 (a.m.quo b.m).x) (.int .u16 (a.m.quo b.m).y) (.int .u16 (a.m.quo b.m).z) (.int .u16 (a.m.quo b.m).t)) w.heap.size y (p/q) from put8_ef HY.out B4.out (by decide) ..);have HB:=qh (show Below w.heap.size w (put8 U A4 (.bool y.t.s) (.slice y.t.a y.t.n y.t.c) (.bool y.l.s) (.slice y.l.a y.l.n y.l.c) (.int .u16 (a.m.quo b.m).x) (.int .u16 (a.m.quo b.m).y) (.int .u16 (a.m.quo b.m).z) (.int .u16 (a.m.quo b.m).t)) from put8_below KG.out HA4.out ..)
 go_wp2_with fail
 exact bodyPost_ret (results_ct rfl _ _ _ _ _ _ _ rfl (put8_bxs B4.out ..) Tryz.underlying32 rfl (by kernel_rfl)) rfl ⟨y,rfl,HD.out,HB.out⟩
end Go.Proofs.YtjcmanikkcfnmaaGreat.Pol
