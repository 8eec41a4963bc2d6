/-
  The walk of polys.Coefs.
-/
import Derived.Test.YthacfgmdihcffaaGreatDoorPzRO
set_option linter.unusedSimpArgs false
set_option linter.unusedVariables false
set_option maxHeartbeats 16000000
set_option maxRecDepth 100000
namespace Go.Proofs.YthacfgmdihcffaaGreatDoor
namespace Pol
open Go.RowKit Go.Sort Limb
theorem rcheck_raw (x:PV) (L:List TO) (k0:Nat) (w:World) (h:RawP w x L) (hn:x.n<=1000000000) (hk:k0<=L.length) (hok:∀ i,i<k0->Ok1 L i) (hbad:k0<L.length->¬Ok1 L k0) :
  Calls Tryz.prog 91 #[x.v] w fun e w'=>e=.returned (.bool (decide (k0=L.length)))/\Below w.heap.size w w':=by
 obtain⟨xa,xn,xc⟩:=x;have HLN:=qh (show L.length=xn from h.2.1);have HN:=qh (show xn<=1000000000 from hn);have HR:=qh h;have HK0:=qh hk;have HOK:=qh hok;have HBAD:=qh hbad;have KG:=qh (Below.refl w.heap.size w);obtain⟨bv,hbv⟩:∃ b,b=decide (k0=L.length):=⟨_,rfl⟩;have HBV:=qh hbv;rw[<- hbv];clear h hk hok hbad hn hbv;change Calls Tryz.prog 91 #[.slice xa xn xc] w _;go_enter Tryz.func91,Tryz.ntmps91;go_wp2_with fail
 go_loopw [3] (fun i wr=>∃ k:Nat,k<=k0/\i=.int .i64 k/\Below w.heap.size w wr) (fun i _=>xn-(intOf i).toNat)
 case atStart=>exact⟨0,Nat.zero_le _,rfl,KG.o⟩
 case round =>
  obtain⟨k,hkk,rfl,hb0⟩:=hrel;have KG:=qh hb0;have HKK0:=qh hkk;clear hb0 hkk;by_cases hkl:k<xn
  ·have HKL:=qh hkl
   have hkl2:(k:Int)<(xn:Int):=by omega
   obtain⟨pb,po,rfl,hre⟩:=(HR.o.below KG.o).1.one (fun h=>by have h1:=HLN.o;rw[List.map_eq_nil_iff] at h;rw[h] at h1;simp at h1;omega);obtain⟨e,he⟩:∃ e,L[k]?=some e:=⟨_,List.getElem?_eq_getElem (by rw[HLN.o];exact hkl)⟩;obtain⟨t,o⟩:=e;have E1:=qh (hre k t (by rw[List.getElem?_map,he];rfl));have HRE:=qh hre;have HE:=qh he;have HTO:=qh ((HR.o.below KG.o).2.2.2.1 _ (List.mem_of_getElem? he));have HLF:=qh (show LF t.c 900000 from HR.o.2.2.2.2.2 _ (List.mem_of_getElem? he));have HS1:=qh (show t.m.Small from HR.o.2.2.2.2.1 _ (List.mem_of_getElem? he));clear hre he hkl
   cases o with
   | none =>
    have NF:=qh (show BF wr t.c from HTO.o)
    have HEND:=qh (show false=bv by
     rw[HBV.o];refine(zo fun hh=>?_).symm;obtain⟨e',q',h1,h2,-⟩:=HOK.o k (by rw[hh,HLN.o];exact HKL.o);rw[HE.o] at h1
     cases h1
     cases h2)
    clear HTO
    go_upto_region 4 with (fail)
    refine FS.wp_region_fresh 34 [] (FS.spOf [(5,FS.Sp.know (.bool false))])
     (fun w'=>Below wr.heap.size wr w') (by kernel_rfl) (by kernel_rfl) (by kernel_rfl)
     (FS.spOf_cons (FS.Sp.know_keeps _ _) (FS.spOf_nil)) (fun _ _ h hb=>h.trans (hb.mono h.size)) (zk.drew) ?_
    simp only[zu,zi,ze,zx,zy,zv,zw]
    iterate 5
     refine FS.wpF_reads rfl rfl rfl ?_ (fun w' hw'=>?_) ?_;rotate_left
     ·have hb':=hw'.world;have hn:=HKL.o;obtain⟨hs0,hs1,hs2,hs3,hs4,hs5,hs6,hs7⟩:=(E1.o.below hb').eight;clear hw';go_simp
      try rfl
     conv=>arg 10;simp only[Act.put,zq0,zq1,zq2]
    refine FS.wpF_spec rfl rfl rfl (fun w' hw'=>?_) ?_
    ·have hb':=hw'.world;refine FS.gives_of (FS.PK (.bool false)) ?_ (fun _ _ h=>h.post);go_simp;have CT:=(show Calls Tryz.prog 149 #[.agg #[.bool t.c.t.s,.slice t.c.t.a t.c.t.n t.c.t.c,.bool t.c.l.s,.slice t.c.l.a t.c.l.n t.c.l.c]] w' _ from rcheckVB (x:=t.c) (NF.o.below hb') HLF.o);refine CT.mono ?_;rintro e w'' ⟨rfl,hb⟩;exact⟨_,rfl,rfl,hb⟩
    rintro _ rfl
    conv=>arg 10;simp only[Act.put,zq0,zq1,zq2]
    iterate 2
     refine FS.wpF_reads rfl rfl rfl ?_ (fun w' hw'=>?_) ?_;rotate_left
     ·have hb':=hw'.world;skip;clear hw';go_simp
      try rfl
     conv=>arg 10;simp only[Act.put,zq0,zq1,zq2]
    iterate 7
     refine FS.wpF_skip (by rfl) rfl ?_
     conv=>arg 10;simp only[Act.put,zq0,zq1,zq2]
    iterate 2
     refine FS.wpF_reads rfl rfl rfl ?_ (fun w' hw'=>?_) ?_;rotate_left
     ·have hb':=hw'.world;skip;clear hw';go_simp
      try rfl
     conv=>arg 10;simp only[Act.put,zq0,zq1,zq2]
    iterate 17
     refine FS.wpF_skip (by rfl) rfl ?_
     conv=>arg 10;simp only[Act.put,zq0,zq1,zq2]
    refine FS.wpF_nil (fun w101 hb hF=>?_);clear hF;have KG:=qk KG hb;clear hb;go_wp2_with fail
    go_ret
    exact⟨by rw[HEND.o] <;> rfl,KG.o⟩
   | some q =>
    have NF:=qh (show KF wr t.c q from HTO.o);by_cases hq:q=0
    ·have HSG:=qh (q_num.2 hq)
     have HEND:=qh (show false=bv by
      rw[HBV.o];refine(zo fun hh=>?_).symm;obtain⟨e',q',h1,h2,h3,-⟩:=HOK.o k (by rw[hh,HLN.o];exact HKL.o);rw[HE.o] at h1
      cases h1
      cases h2
      exact h3 hq)
     clear HTO hq
     go_upto_region 4 with (fail)
     refine FS.wp_region_fresh 34 [] (FS.spOf [(5,FS.Sp.know (.bool true)),(13,FS.Sp.know (.int .i64 0))])
      (fun w'=>Below wr.heap.size wr w') (by kernel_rfl) (by kernel_rfl) (by kernel_rfl)
      (FS.spOf_cons (FS.Sp.know_keeps _ _) (FS.spOf_cons (FS.Sp.know_keeps _ _) (FS.spOf_nil))) (fun _ _ h hb=>h.trans (hb.mono h.size)) (zk.drew) ?_
     simp only[zu,zi,ze,zx,zy,zv,zw]
     iterate 5
      refine FS.wpF_reads rfl rfl rfl ?_ (fun w' hw'=>?_) ?_;rotate_left
      ·have hb':=hw'.world;have hn:=HKL.o;obtain⟨hs0,hs1,hs2,hs3,hs4,hs5,hs6,hs7⟩:=(E1.o.below hb').eight;clear hw';go_simp
       try rfl
      conv=>arg 10;simp only[Act.put,zq0,zq1,zq2]
     refine FS.wpF_spec rfl rfl rfl (fun w' hw'=>?_) ?_
     ·have hb':=hw'.world;refine FS.gives_of (FS.PK (.bool true)) ?_ (fun _ _ h=>h.post);go_simp;have CT:=(show Calls Tryz.prog 149 #[.agg #[.bool t.c.t.s,.slice t.c.t.a t.c.t.n t.c.t.c,.bool t.c.l.s,.slice t.c.l.a t.c.l.n t.c.l.c]] w' _ from rcheckV (x:=t.c) (NF.o.below hb') HLF.o);refine CT.mono ?_;rintro e w'' ⟨rfl,hb⟩;exact⟨_,rfl,rfl,hb⟩
     rintro _ rfl
     conv=>arg 10;simp only[Act.put,zq0,zq1,zq2]
     iterate 2
      refine FS.wpF_reads rfl rfl rfl ?_ (fun w' hw'=>?_) ?_;rotate_left
      ·have hb':=hw'.world;skip;clear hw';go_simp
       try rfl
      conv=>arg 10;simp only[Act.put,zq0,zq1,zq2]
     iterate 5
      refine FS.wpF_readsG (by rfl) rfl rfl ?_ (fun w' hw'=>?_) ?_;rotate_left
      ·have hb':=hw'.world;have hn:=HKL.o;obtain⟨hs0,hs1,hs2,hs3,hs4,hs5,hs6,hs7⟩:=(E1.o.below hb').eight;clear hw';go_simp
       try rfl
      conv=>arg 10;simp only[Act.put,zq0,zq1,zq2]
     refine FS.wpF_gspec (by rfl) rfl rfl (fun w' hw'=>?_) ?_
     ·have hb':=hw'.world;refine FS.gives_of (FS.PK (.int .i64 0)) ?_ (fun _ _ h=>h.post);go_simp;have CT:=(show Calls Tryz.prog 150 #[.agg #[.bool t.c.t.s,.slice t.c.t.a t.c.t.n t.c.t.c,.bool t.c.l.s,.slice t.c.l.a t.c.l.n t.c.l.c]] w' _ from rsignV (x:=t.c) (NF.o.below hb').any HLF.o);rw[show cmpZ q.num 0=0 from HSG.o] at CT;refine CT.mono ?_;rintro e w'' ⟨rfl,hb⟩;exact⟨_,rfl,rfl,hb⟩
     rintro _ rfl
     conv=>arg 10;simp only[Act.put,zq0,zq1,zq2]
     refine FS.wpF_readsG (by rfl) rfl rfl ?_ (fun w' hw'=>?_) ?_;rotate_left
     ·have hb':=hw'.world;skip;clear hw';go_simp
      try rfl
     conv=>arg 10;simp only[Act.put,zq0,zq1,zq2]
     iterate 2
      refine FS.wpF_reads rfl rfl rfl ?_ (fun w' hw'=>?_) ?_;rotate_left
      ·have hb':=hw'.world;skip;clear hw';go_simp
       try rfl
      conv=>arg 10;simp only[Act.put,zq0,zq1,zq2]
     iterate 17
      refine FS.wpF_skip (by rfl) rfl ?_
      conv=>arg 10;simp only[Act.put,zq0,zq1,zq2]
     refine FS.wpF_nil (fun w102 hb hF=>?_);clear hF;have KG:=qk KG hb;clear hb;go_wp2_with fail
     go_ret;exact⟨by rw[HEND.o] <;> rfl,KG.o⟩
    ·obtain⟨sg,hsg⟩:∃ c,c=cmpZ q.num 0:=⟨_,rfl⟩;have HSG:=qh hsg.symm
     have gsg:(sg==0)=false:=by
      rw[hsg]
      simpa using fun h=>hq (q_num.1 h)
     have HQ:=qh hq;clear hsg hq HTO
     rcases Nat.eq_zero_or_pos k with h0 | h0
     ·have HKK:=qh (show k<k0 from Nat.lt_of_le_of_ne HKK0.o fun hh=>HBAD.o (by rw[<- hh,HLN.o];exact HKL.o) (by rw[<- hh];exact⟨_,q,HE.o,rfl,HQ.o,fun h=>by omega⟩))
      have gk2:¬(0<(k:Int)):=by omega
      have gk3:¬(0<k):=by omega
      clear h0
      go_upto_region 4 with (fail)
      refine FS.wp_region_fresh 34 [] (FS.spOf [(5,FS.Sp.know (.bool true)),(13,FS.Sp.know (.int .i64 sg))])
       (fun w'=>Below wr.heap.size wr w') (by kernel_rfl) (by kernel_rfl) (by kernel_rfl)
       (FS.spOf_cons (FS.Sp.know_keeps _ _) (FS.spOf_cons (FS.Sp.know_keeps _ _) (FS.spOf_nil))) (fun _ _ h hb=>h.trans (hb.mono h.size)) (zk.drew) ?_
      simp only[zu,zi,ze,zx,zy,zv,zw]
      iterate 5
       refine FS.wpF_reads rfl rfl rfl ?_ (fun w' hw'=>?_) ?_;rotate_left
       ·have hb':=hw'.world;have hn:=HKL.o;obtain⟨hs0,hs1,hs2,hs3,hs4,hs5,hs6,hs7⟩:=(E1.o.below hb').eight;clear hw';go_simp
        try rfl
       conv=>arg 10;simp only[Act.put,zq0,zq1,zq2]
      refine FS.wpF_spec rfl rfl rfl (fun w' hw'=>?_) ?_
      ·have hb':=hw'.world;refine FS.gives_of (FS.PK (.bool true)) ?_ (fun _ _ h=>h.post);go_simp;have CT:=(show Calls Tryz.prog 149 #[.agg #[.bool t.c.t.s,.slice t.c.t.a t.c.t.n t.c.t.c,.bool t.c.l.s,.slice t.c.l.a t.c.l.n t.c.l.c]] w' _ from rcheckV (x:=t.c) (NF.o.below hb') HLF.o);refine CT.mono ?_;rintro e w'' ⟨rfl,hb⟩;exact⟨_,rfl,rfl,hb⟩
      rintro _ rfl
      conv=>arg 10;simp only[Act.put,zq0,zq1,zq2]
      iterate 2
       refine FS.wpF_reads rfl rfl rfl ?_ (fun w' hw'=>?_) ?_;rotate_left
       ·have hb':=hw'.world;skip;clear hw';go_simp
        try rfl
       conv=>arg 10;simp only[Act.put,zq0,zq1,zq2]
      iterate 5
       refine FS.wpF_readsG (by rfl) rfl rfl ?_ (fun w' hw'=>?_) ?_;rotate_left
       ·have hb':=hw'.world;have hn:=HKL.o;obtain⟨hs0,hs1,hs2,hs3,hs4,hs5,hs6,hs7⟩:=(E1.o.below hb').eight;clear hw';go_simp
        try rfl
       conv=>arg 10;simp only[Act.put,zq0,zq1,zq2]
      refine FS.wpF_gspec (by rfl) rfl rfl (fun w' hw'=>?_) ?_
      ·have hb':=hw'.world;refine FS.gives_of (FS.PK (.int .i64 sg)) ?_ (fun _ _ h=>h.post);go_simp;have CT:=(show Calls Tryz.prog 150 #[.agg #[.bool t.c.t.s,.slice t.c.t.a t.c.t.n t.c.t.c,.bool t.c.l.s,.slice t.c.l.a t.c.l.n t.c.l.c]] w' _ from rsignV (x:=t.c) (NF.o.below hb').any HLF.o);rw[show cmpZ q.num 0=sg from HSG.o] at CT;refine CT.mono ?_;rintro e w'' ⟨rfl,hb⟩;exact⟨_,rfl,rfl,hb⟩
      rintro _ rfl
      conv=>arg 10;simp only[Act.put,zq0,zq1,zq2]
      refine FS.wpF_readsG (by rfl) rfl rfl ?_ (fun w' hw'=>?_) ?_;rotate_left
      ·have hb':=hw'.world;skip;clear hw';go_simp
       try rfl
      conv=>arg 10;simp only[Act.put,zq0,zq1,zq2]
      iterate 2
       refine FS.wpF_reads rfl rfl rfl ?_ (fun w' hw'=>?_) ?_;rotate_left
       ·have hb':=hw'.world;skip;clear hw';go_simp
        try rfl
       conv=>arg 10;simp only[Act.put,zq0,zq1,zq2]
      iterate 3
       refine FS.wpF_readsG (by rfl) rfl rfl ?_ (fun w' hw'=>?_) ?_;rotate_left
       ·have hb':=hw'.world;skip;clear hw';go_simp
        try rfl
       conv=>arg 10;simp only[Act.put,zq0,zq1,zq2]
      iterate 13
       refine FS.wpF_skip (by rfl) rfl ?_
       conv=>arg 10;simp only[Act.put,zq0,zq1,zq2]
      refine FS.wpF_readsG (by rfl) rfl rfl ?_ (fun w' hw'=>?_) ?_;rotate_left
      ·have hb':=hw'.world;skip;clear hw';go_simp
       try rfl
      conv=>arg 10;simp only[Act.put,zq0,zq1,zq2]
      refine FS.wpF_nil (fun w103 hb hF=>?_);clear hF;have KG:=qk KG hb;clear hb;have ek1:IntKind.i64.wrap ((k:Int)+1)=(k:Int)+1:=IntWalk.i64_in _ (by have:=HKL.o;have:=HN.o;omega);go_wp2_with fail
      go_roundw
      case rel=>exact⟨k+1,by have:=HKK.o;omega,rfl,KG.o⟩
      case measure=>simp[intOf];have:=HKL.o;omega
     ·obtain⟨j,hj⟩:∃ j,k=j+1:=⟨k-1,by omega⟩
      have gk2:0<(k:Int):=by omega
      have gk3:0<k:=by omega
      have EJW:=qh (show IntKind.i64.wrap ((k:Int)-1)=(j:Int) by have:=HKL.o;have:=HN.o;rw[IntWalk.i64_in _ (by omega)];omega);have HJN:=qh (show j<xn by have:=HKL.o;omega);have HJK:=qh hj;obtain⟨d,hd⟩:∃ d,L[j]?=some d:=⟨_,List.getElem?_eq_getElem (by rw[HLN.o];exact HJN.o)⟩;obtain⟨tj,oj⟩:=d;have HD:=qh hd;have EJ:=qh (HRE.o j tj (by rw[List.getElem?_map,hd];rfl));have HS2:=qh (show tj.m.Small from HR.o.2.2.2.2.1 _ (List.mem_of_getElem? hd));obtain⟨fv,hfv⟩:∃ c,c=Mono.cmpZ (keyO 0 tj.m) (keyO 0 t.m):=⟨_,rfl⟩;have HFV:=qh hfv.symm;clear hd h0 hj;by_cases hlt:t.m.lt tj.m
      ·have gf2:¬(fv<=0):=by rw[hfv];exact Int.not_le.2 (cmpZ_dec.2 ((lt_key0 HS1.o HS2.o).1 hlt))
       have HKK:=qh (show k<k0 from Nat.lt_of_le_of_ne HKK0.o fun hh=>HBAD.o (by rw[<- hh,HLN.o];exact HKL.o) (by rw[<- hh];exact⟨_,q,HE.o,rfl,HQ.o,fun _=>⟨_,by rw[HJK.o];exact HD.o,hlt⟩⟩));clear hfv hlt
       go_upto_region 4 with (fail)
       refine FS.wp_region_fresh 34 [] (FS.spOf [(5,FS.Sp.know (.bool true)),(13,FS.Sp.know (.int .i64 sg)),(31,FS.Sp.know (.int .i64 fv))])
        (fun w'=>Below wr.heap.size wr w') (by kernel_rfl) (by kernel_rfl) (by kernel_rfl)
        (FS.spOf_cons (FS.Sp.know_keeps _ _) (FS.spOf_cons (FS.Sp.know_keeps _ _) (FS.spOf_cons (FS.Sp.know_keeps _ _) (FS.spOf_nil)))) (fun _ _ h hb=>h.trans (hb.mono h.size)) (zk.drew) ?_
       simp only[zu,zi,ze,zx,zy,zv,zw]
       iterate 5
        refine FS.wpF_reads rfl rfl rfl ?_ (fun w' hw'=>?_) ?_;rotate_left
        ·have hb':=hw'.world;have hn:=HKL.o;obtain⟨hs0,hs1,hs2,hs3,hs4,hs5,hs6,hs7⟩:=(E1.o.below hb').eight;clear hw';go_simp
         try rfl
        conv=>arg 10;simp only[Act.put,zq0,zq1,zq2]
       refine FS.wpF_spec rfl rfl rfl (fun w' hw'=>?_) ?_
       ·have hb':=hw'.world;refine FS.gives_of (FS.PK (.bool true)) ?_ (fun _ _ h=>h.post);go_simp;have CT:=(show Calls Tryz.prog 149 #[.agg #[.bool t.c.t.s,.slice t.c.t.a t.c.t.n t.c.t.c,.bool t.c.l.s,.slice t.c.l.a t.c.l.n t.c.l.c]] w' _ from rcheckV (x:=t.c) (NF.o.below hb') HLF.o);refine CT.mono ?_;rintro e w'' ⟨rfl,hb⟩;exact⟨_,rfl,rfl,hb⟩
       rintro _ rfl
       conv=>arg 10;simp only[Act.put,zq0,zq1,zq2]
       iterate 2
        refine FS.wpF_reads rfl rfl rfl ?_ (fun w' hw'=>?_) ?_;rotate_left
        ·have hb':=hw'.world;skip;clear hw';go_simp
         try rfl
        conv=>arg 10;simp only[Act.put,zq0,zq1,zq2]
       iterate 5
        refine FS.wpF_readsG (by rfl) rfl rfl ?_ (fun w' hw'=>?_) ?_;rotate_left
        ·have hb':=hw'.world;have hn:=HKL.o;obtain⟨hs0,hs1,hs2,hs3,hs4,hs5,hs6,hs7⟩:=(E1.o.below hb').eight;clear hw';go_simp
         try rfl
        conv=>arg 10;simp only[Act.put,zq0,zq1,zq2]
       refine FS.wpF_gspec (by rfl) rfl rfl (fun w' hw'=>?_) ?_
       ·have hb':=hw'.world;refine FS.gives_of (FS.PK (.int .i64 sg)) ?_ (fun _ _ h=>h.post);go_simp;have CT:=(show Calls Tryz.prog 150 #[.agg #[.bool t.c.t.s,.slice t.c.t.a t.c.t.n t.c.t.c,.bool t.c.l.s,.slice t.c.l.a t.c.l.n t.c.l.c]] w' _ from rsignV (x:=t.c) (NF.o.below hb').any HLF.o);rw[show cmpZ q.num 0=sg from HSG.o] at CT;refine CT.mono ?_;rintro e w'' ⟨rfl,hb⟩;exact⟨_,rfl,rfl,hb⟩
       rintro _ rfl
       conv=>arg 10;simp only[Act.put,zq0,zq1,zq2]
       refine FS.wpF_readsG (by rfl) rfl rfl ?_ (fun w' hw'=>?_) ?_;rotate_left
       ·have hb':=hw'.world;skip;clear hw';go_simp
        try rfl
       conv=>arg 10;simp only[Act.put,zq0,zq1,zq2]
       iterate 2
        refine FS.wpF_reads rfl rfl rfl ?_ (fun w' hw'=>?_) ?_;rotate_left
        ·have hb':=hw'.world;skip;clear hw';go_simp
         try rfl
        conv=>arg 10;simp only[Act.put,zq0,zq1,zq2]
       iterate 14
        refine FS.wpF_readsG (by rfl) rfl rfl ?_ (fun w' hw'=>?_) ?_;rotate_left
        ·have hb':=hw'.world;have hj:=EJW.o;have hn:=HJN.o;obtain⟨hs0,hs1,hs2,hs3,hs4,hs5,hs6,hs7⟩:=(EJ.o.below hb').eight;have hn:=HKL.o;obtain⟨hs0,hs1,hs2,hs3,hs4,hs5,hs6,hs7⟩:=(E1.o.below hb').eight;clear hw';go_simp
         try rfl
        conv=>arg 10;simp only[Act.put,zq0,zq1,zq2]
       refine FS.wpF_gspec (by rfl) rfl rfl (fun w' hw'=>?_) ?_
       ·have hb':=hw'.world;refine FS.gives_of (FS.PK (.int .i64 fv)) ?_ (fun _ _ h=>h.post);go_simp;have CT:=(show Calls Tryz.prog 37 #[.int .u8 0,.agg #[.int .u16 tj.m.x,.int .u16 tj.m.y,.int .u16 tj.m.z,.int .u16 tj.m.t],.agg #[.int .u16 t.m.x,.int .u16 t.m.y,.int .u16 t.m.z,.int .u16 t.m.t]] w' _ from rcmpV 0 tj.m t.m w' HS2.o HS1.o);rw[show Mono.cmpZ (keyO 0 tj.m) (keyO 0 t.m)=fv from HFV.o] at CT;refine CT.mono ?_;rintro e w'' ⟨rfl,hb⟩;exact⟨_,rfl,rfl,hb⟩
       rintro _ rfl
       conv=>arg 10;simp only[Act.put,zq0,zq1,zq2]
       iterate 2
        refine FS.wpF_readsG (by rfl) rfl rfl ?_ (fun w' hw'=>?_) ?_;rotate_left
        ·have hb':=hw'.world;skip;clear hw';go_simp
         try rfl
        conv=>arg 10;simp only[Act.put,zq0,zq1,zq2]
       refine FS.wpF_nil (fun w104 hb hF=>?_);clear hF;have KG:=qk KG hb;clear hb;have ek1:IntKind.i64.wrap ((k:Int)+1)=(k:Int)+1:=IntWalk.i64_in _ (by have:=HKL.o;have:=HN.o;omega);go_wp2_with fail
       go_roundw
       case rel=>exact⟨k+1,by have:=HKK.o;omega,rfl,KG.o⟩
       case measure=>simp[intOf];have:=HKL.o;omega
      ·have gf2:fv<=0:=by rw[hfv];exact Int.not_lt.1 fun h=>hlt ((lt_key0 HS1.o HS2.o).2 (cmpZ_dec.1 h))
       have HEND:=qh (show false=bv by
        rw[HBV.o];refine(zo fun hh=>?_).symm;obtain⟨e',q',h1,h2,h3,h4⟩:=HOK.o k (by rw[hh,HLN.o];exact HKL.o);obtain⟨d',h5,h6⟩:=h4 (by have:=HJK.o;omega);rw[HE.o] at h1
        cases h1
        rw[show k-1=j by have:=HJK.o;omega,HD.o] at h5
        cases h5
        exact hlt h6)
       clear hfv hlt
       go_upto_region 4 with (fail)
       refine FS.wp_region_fresh 34 [] (FS.spOf [(5,FS.Sp.know (.bool true)),(13,FS.Sp.know (.int .i64 sg)),(31,FS.Sp.know (.int .i64 fv))])
        (fun w'=>Below wr.heap.size wr w') (by kernel_rfl) (by kernel_rfl) (by kernel_rfl)
        (FS.spOf_cons (FS.Sp.know_keeps _ _) (FS.spOf_cons (FS.Sp.know_keeps _ _) (FS.spOf_cons (FS.Sp.know_keeps _ _) (FS.spOf_nil)))) (fun _ _ h hb=>h.trans (hb.mono h.size)) (zk.drew) ?_
       simp only[zu,zi,ze,zx,zy,zv,zw]
       iterate 5
        refine FS.wpF_reads rfl rfl rfl ?_ (fun w' hw'=>?_) ?_;rotate_left
        ·have hb':=hw'.world;have hn:=HKL.o;obtain⟨hs0,hs1,hs2,hs3,hs4,hs5,hs6,hs7⟩:=(E1.o.below hb').eight;clear hw';go_simp
         try rfl
        conv=>arg 10;simp only[Act.put,zq0,zq1,zq2]
       refine FS.wpF_spec rfl rfl rfl (fun w' hw'=>?_) ?_
       ·have hb':=hw'.world;refine FS.gives_of (FS.PK (.bool true)) ?_ (fun _ _ h=>h.post);go_simp;have CT:=(show Calls Tryz.prog 149 #[.agg #[.bool t.c.t.s,.slice t.c.t.a t.c.t.n t.c.t.c,.bool t.c.l.s,.slice t.c.l.a t.c.l.n t.c.l.c]] w' _ from rcheckV (x:=t.c) (NF.o.below hb') HLF.o);refine CT.mono ?_;rintro e w'' ⟨rfl,hb⟩;exact⟨_,rfl,rfl,hb⟩
       rintro _ rfl
       conv=>arg 10;simp only[Act.put,zq0,zq1,zq2]
       iterate 2
        refine FS.wpF_reads rfl rfl rfl ?_ (fun w' hw'=>?_) ?_;rotate_left
        ·have hb':=hw'.world;skip;clear hw';go_simp
         try rfl
        conv=>arg 10;simp only[Act.put,zq0,zq1,zq2]
       iterate 5
        refine FS.wpF_readsG (by rfl) rfl rfl ?_ (fun w' hw'=>?_) ?_;rotate_left
        ·have hb':=hw'.world;have hn:=HKL.o;obtain⟨hs0,hs1,hs2,hs3,hs4,hs5,hs6,hs7⟩:=(E1.o.below hb').eight;clear hw';go_simp
         try rfl
        conv=>arg 10;simp only[Act.put,zq0,zq1,zq2]
       refine FS.wpF_gspec (by rfl) rfl rfl (fun w' hw'=>?_) ?_
       ·have hb':=hw'.world;refine FS.gives_of (FS.PK (.int .i64 sg)) ?_ (fun _ _ h=>h.post);go_simp;have CT:=(show Calls Tryz.prog 150 #[.agg #[.bool t.c.t.s,.slice t.c.t.a t.c.t.n t.c.t.c,.bool t.c.l.s,.slice t.c.l.a t.c.l.n t.c.l.c]] w' _ from rsignV (x:=t.c) (NF.o.below hb').any HLF.o);rw[show cmpZ q.num 0=sg from HSG.o] at CT;refine CT.mono ?_;rintro e w'' ⟨rfl,hb⟩;exact⟨_,rfl,rfl,hb⟩
       rintro _ rfl
       conv=>arg 10;simp only[Act.put,zq0,zq1,zq2]
       refine FS.wpF_readsG (by rfl) rfl rfl ?_ (fun w' hw'=>?_) ?_;rotate_left
       ·have hb':=hw'.world;skip;clear hw';go_simp
        try rfl
       conv=>arg 10;simp only[Act.put,zq0,zq1,zq2]
       iterate 2
        refine FS.wpF_reads rfl rfl rfl ?_ (fun w' hw'=>?_) ?_;rotate_left
        ·have hb':=hw'.world;skip;clear hw';go_simp
         try rfl
        conv=>arg 10;simp only[Act.put,zq0,zq1,zq2]
       iterate 14
        refine FS.wpF_readsG (by rfl) rfl rfl ?_ (fun w' hw'=>?_) ?_;rotate_left
        ·have hb':=hw'.world;have hj:=EJW.o;have hn:=HJN.o;obtain⟨hs0,hs1,hs2,hs3,hs4,hs5,hs6,hs7⟩:=(EJ.o.below hb').eight;have hn:=HKL.o;obtain⟨hs0,hs1,hs2,hs3,hs4,hs5,hs6,hs7⟩:=(E1.o.below hb').eight;clear hw';go_simp
         try rfl
        conv=>arg 10;simp only[Act.put,zq0,zq1,zq2]
       refine FS.wpF_gspec (by rfl) rfl rfl (fun w' hw'=>?_) ?_
       ·have hb':=hw'.world;refine FS.gives_of (FS.PK (.int .i64 fv)) ?_ (fun _ _ h=>h.post);go_simp;have CT:=(show Calls Tryz.prog 37 #[.int .u8 0,.agg #[.int .u16 tj.m.x,.int .u16 tj.m.y,.int .u16 tj.m.z,.int .u16 tj.m.t],.agg #[.int .u16 t.m.x,.int .u16 t.m.y,.int .u16 t.m.z,.int .u16 t.m.t]] w' _ from rcmpV 0 tj.m t.m w' HS2.o HS1.o);rw[show Mono.cmpZ (keyO 0 tj.m) (keyO 0 t.m)=fv from HFV.o] at CT;refine CT.mono ?_;rintro e w'' ⟨rfl,hb⟩;exact⟨_,rfl,rfl,hb⟩
       rintro _ rfl
       conv=>arg 10;simp only[Act.put,zq0,zq1,zq2]
       iterate 2
        refine FS.wpF_readsG (by rfl) rfl rfl ?_ (fun w' hw'=>?_) ?_;rotate_left
        ·have hb':=hw'.world;skip;clear hw';go_simp
         try rfl
        conv=>arg 10;simp only[Act.put,zq0,zq1,zq2]
       refine FS.wpF_nil (fun w105 hb hF=>?_);clear hF;have KG:=qk KG hb;clear hb;go_wp2_with fail
       go_ret;exact⟨by rw[HEND.o] <;> rfl,KG.o⟩
  ·have HEND:=qh (show true=bv by
    rw[HBV.o]
    exact(decide_eq_true (by have:=HKK0.o;have:=HK0.o;have:=HLN.o;omega)).symm)
   have hge:¬((k:Int)<(xn:Int)):=by omega
   clear hkl;go_wp2_with fail
   go_ret;exact⟨by rw[HEND.o] <;> rfl,KG.o⟩
theorem rcheck_k {w:World} {x:PV} {P:List Tm} (h:KP w x P) (hq:∀ t∈P,LQ t.2 900000) (hn:x.n<=1000000000):Calls Tryz.prog 91 #[x.v] w fun e w'=>e=.returned (.bool true)/\Below w.heap.size w w':=by
 obtain⟨K,h1,h2,h3,h4⟩:=h.ex
 have hR:RawP w x (K.map fun e=>(e.1,some e.2)):=by
  refine⟨by rw[List.map_map];exact h1,by rw[List.length_map];exact h2,h.le,fun e he=>?_,fun e he=>?_,fun e he=>?_⟩
  ·obtain⟨f,hf,rfl⟩:=List.mem_map.1 he;exact h3 f hf
  ·obtain⟨f,hf,rfl⟩:=List.mem_map.1 he;exact h.small (tm f) (by rw[<- h4];exact List.mem_map_of_mem hf)
  ·obtain⟨f,hf,rfl⟩:=List.mem_map.1 he;exact(h3 f hf).len (hq (tm f) (by rw[<- h4];exact List.mem_map_of_mem hf)) zj
 have hok:okP (K.map fun e=>(e.1,some e.2)):=by
  refine⟨P,?_,h.canon⟩;rw[vals_iff];refine⟨by rw[<- h4,List.length_map,List.length_map],fun i e he=>?_⟩;rw[List.getElem?_map] at he
  cases hk:K[i]? with
  | none=>rw[hk] at he;cases he
  | some f =>
   rw[hk] at he
   obtain rfl:(f.1,some f.2)=e:=by simpa using he
   exact⟨f.2,rfl,by rw[<- h4,List.getElem?_map,hk];rfl⟩
 have g:=rcheck_raw x _ (K.map fun e=>(e.1,some e.2)).length w hR hn zj ((okP_iff _).1 hok) (fun h=>absurd h (by omega));rwa [decide_eq_true rfl] at g
theorem rcheck_b {w:World} {x:PV} (h:BP w x) (hn:x.n<=1000000000):Calls Tryz.prog 91 #[x.v] w fun e w'=>e=.returned (.bool false)/\Below w.heap.size w w':=by
 obtain⟨L,hR,hk⟩:=h;rw[okP_iff] at hk
 have first:∀ n,n<=L.length->(∀ i,i<n->Ok1 L i)\/∃ k0,k0<n/\(∀ i,i<k0->Ok1 L i)/\¬Ok1 L k0:=by
  intro n
  induction n with
  | zero=>exact fun _=>Or.inl fun i hi=>by omega
  | succ n ih =>
   intro hn
   rcases ih (by omega) with h1 | ⟨k0,h1,h2⟩
   ·by_cases h2:Ok1 L n
    ·exact Or.inl fun i hi=>(Nat.lt_or_eq_of_le (Nat.le_of_lt_succ hi)).elim (h1 i) (fun e=>e▸h2)
    ·exact Or.inr ⟨n,by omega,h1,h2⟩
   ·exact Or.inr ⟨k0,by omega,h2⟩
 rcases first L.length zj with h1 | ⟨k0,h1,h2,h3⟩
 ·exact absurd h1 hk
 ·have g:=rcheck_raw x L k0 w hR hn (Nat.le_of_lt h1) h2 (fun _=>h3);rwa [zo (by omega)] at g
theorem rfit_k {w:World} {x:PV} {P:List Tm} (h:KP w x P) (hq:∀ t∈P,LQ t.2 900000) (hn:x.n<=1000000000):Calls Tryz.prog 36 #[x.v] w fun e w'=>e=.returned x.v/\Below w.heap.size w w':=by
 have C:=qh (rcheck_k h hq hn);go_enter Tryz.func36,Tryz.ntmps36;go_wp2_with fail
 refine C.o.mono ?_;rintro e w1 ⟨rfl,hb⟩;have HB:=qh hb;clear hb C;go_wp2_with fail
 go_ret;exact⟨rfl,HB.o⟩
theorem rfit_b {w:World} {x:PV} (h:BP w x) (hn:x.n<=1000000000):Calls Tryz.prog 36 #[x.v] w fun e w'=>e=.returned (.slice none 0 0)/\Below w.heap.size w w':=by
 have C:=qh (rcheck_b h hn);go_enter Tryz.func36,Tryz.ntmps36;go_wp2_with fail
 refine C.o.mono ?_;rintro e w1 ⟨rfl,hb⟩;have HB:=qh hb;clear hb C;go_wp2_with fail
 go_ret;exact⟨rfl,HB.o⟩
theorem rfit_any {w:World} {x:PV} {P:List Tm} (h:AP w x P) (hq:∀ t∈P,LQ t.2 900000) (hn:x.n<=1000000000):Calls Tryz.prog 36 #[x.v] w fun e w'=>∃ y:PV,e=.returned y.v/\KP w' y P/\y.n<=x.n/\Below w.heap.size w w':=by
 rcases h with h | ⟨h,rfl⟩
 ·exact(rfit_k h hq hn).mono fun e w' ⟨h1,h2⟩=>⟨x,h1,h.below h2,zj,h2⟩
 ·exact(rfit_b h hn).mono fun e w' ⟨h1,h2⟩=>⟨⟨none,0,0⟩,h1,KP.nil _ _ _,Nat.zero_le _,h2⟩
def dvC (y:FV) (m:Mo) (all often:PV):List Value:=[.bool y.t.s,.slice y.t.a y.t.n y.t.c,.bool y.l.s,.slice y.l.a y.l.n y.l.c,.int .u16 m.x,.int .u16 m.y,.int .u16 m.z,.int .u16 m.t,.slice all.a all.n all.c,.slice often.a often.n often.c]
structure RS (w:World) (a:Option Addr) (ps:List PV):Prop where
 ex:ps≠[]->∃ b off,a=some ⟨b,off,none⟩/\∀ i p,ps[i]?=some p->w.cell? ⟨b,off+i,none⟩=some p.v
theorem RS.nil (w:World) (a:Option Addr):RS w a []:=⟨fun h=>absurd rfl h⟩
theorem RS.below {w w':World} {a:Option Addr} {ps:List PV} (h:RS w a ps) (hb:Below w.heap.size w w'):RS w' a ps:=by
 refine⟨fun hn=>?_⟩;obtain⟨b,off,ha,hc⟩:=h.ex hn;refine⟨b,off,ha,fun i p hi=>?_⟩;have h1:=hc i p hi;exact(hb.cell (p:=⟨b,off+i,none⟩) (block_lt_of_cell h1)).trans h1
def FB (w:World) (x:FV) (ok:Bool):Prop:=match ok with
 | true=>∃ q,KF w x q
 | false=>BF w x
theorem FB.below {w w':World} {x:FV} {ok:Bool} (h:FB w x ok) (hb:Below w.heap.size w w'):FB w' x ok:=by
 cases ok with
 | true=>exact h.imp fun q h=>KF.below h hb
 | false=>exact BF.below h hb
structure B4 (w:World) (x0 x1 x2 x3:FV) (ok:Nat->Bool):Prop where
 k0:FB w x0 (ok 0)
 k1:FB w x1 (ok 1)
 k2:FB w x2 (ok 2)
 k3:FB w x3 (ok 3)
 l0:LF x0 900000
 l1:LF x1 900000
 l2:LF x2 900000
 l3:LF x3 900000
theorem B4.below {w w':World} {x0 x1 x2 x3:FV} {ok:Nat->Bool} (h:B4 w x0 x1 x2 x3 ok) (hb:Below w.heap.size w w'):B4 w' x0 x1 x2 x3 ok:=⟨h.k0.below hb,h.k1.below hb,h.k2.below hb,h.k3.below hb,h.l0,h.l1,h.l2,h.l3⟩
theorem DF.only {w w':World} {lo c:Nat} {x:FV} {q:Rat} {es:Array MapEntry} {k:Nat} (h:DF w lo x q) (ho:Only c w w') (hc:w.heap[c]?=some (.map es k)):DF w' lo x q :=
 h.kept fun b hb=>by
  obtain⟨cur,h1⟩:=DF.blkc h hb
  exact ho.2.2.2.2 b (lt_of_block h1) fun e=>by rw[e,hc] at h1;cases h1
theorem MK.only {w w':World} {lo b c:Nat} {L:List TE} {es:Array MapEntry} {k:Nat} (h:MK w lo b L) (ho:Only c w w') (hc:w.heap[c]?=some (.map es k)) (hne:b≠c):MK w' lo b L :=
 ⟨(ho.2.2.2.2 b h.lt hne).trans h.blk,h.ge,fun e he=>DF.only (h.df e he) ho hc,h.ap,h.keys,h.small⟩
theorem coefP_snoc (A:List Tm) (t:Tm) (i k:Nat):coefP (A++[t]) i k=coefP A i k++(if t.1.at i=k then [(t.1.cut i,t.2)] else []):=by
 unfold coefP;rw[List.filter_append,List.map_append]
 congr 1
 by_cases h:t.1.at i=k
 ·rw[if_pos h,List.filter_cons_of_pos (by simpa using h)];rfl
 ·rw[if_neg h,List.filter_cons_of_neg (by simpa using h)];rfl
theorem nf_id {P:List Tm} (h:Canon P):nf P=P:=canon_same (nf_canon _) h fun f=>by rw[nf_ev]
theorem coefP_lq {P:List Tm} {K:Nat} (h:∀ t∈P,LQ t.2 K) (i k:Nat):∀ t∈coefP P i k,LQ t.2 K:=fun t ht=>by
 obtain⟨s,hs,rfl⟩:=List.mem_map.1 ht;exact h s (List.mem_filter.1 hs).1
theorem cut_small {m:Mo} (h:m.Small) (i:Nat):(m.cut i).Small:=by
 obtain⟨h1,h2,h3,h4⟩:=h;unfold Mo.cut;split
 ·exact⟨Nat.zero_le _,h2,h3,h4⟩
 ·split
  ·exact⟨h1,Nat.zero_le _,h3,h4⟩
  ·split
   ·exact⟨h1,h2,Nat.zero_le _,h4⟩
   ·exact⟨h1,h2,h3,Nat.zero_le _⟩
structure MR (w:World) (lo g d i:Nat) (A:List Tm) (bs:Nat->Option Nat) (Ms:Nat->List TE):Prop where
 row:w.rowIs g 84 (d+1) (fun k=>.map (bs k))
 nil:∀ k,k<=d->bs k=none->coefP A i k=[]
 got:∀ k b,k<=d->bs k=some b->MK w lo b (Ms k)/\∀ f,ev ((Ms k).map tm) f=ev (coefP A i k) f
 inj:∀ k j b,k<=d->j<=d->bs k=some b->bs j=some b->k=j
 apk:∀ k j b c,k<=d->j<=d->k≠j->bs k=some b->bs j=some c->∀ e∈Ms k,∀ f∈Ms j,FV.apart e.1.c f.1.c
theorem MR.below {w w':World} {lo g d i:Nat} {A:List Tm} {bs:Nat->Option Nat} {Ms:Nat->List TE} (h:MR w lo g d i A bs Ms) (hb:Below w.heap.size w w'):MR w' lo g d i A bs Ms :=
 ⟨h.row.of_block (hb.block g h.row.lt),h.nil,fun k b hk h1=>⟨(h.got k b hk h1).1.below hb,(h.got k b hk h1).2⟩,h.inj,h.apk⟩
theorem MR.fill {w:World} {lo g d i:Nat} {A:List Tm} {bs:Nat->Option Nat} {Ms:Nat->List TE} (h:MR w lo g d i A bs Ms) {k:Nat} (hk:k<=d) (h0:bs k=none) (hlo:lo<=w.heap.size) :
  MR ((w.alloc (.map #[] 0)).setCell ⟨g,k,none⟩ (.map (some w.heap.size))) lo g d i A (fun j=>if j=k then some w.heap.size else bs j) (fun j=>if j=k then [] else Ms j):=by
 have hg:=h.row.lt
 have hne:w.heap.size≠g:=by omega
 have old:∀ b,b<w.heap.size->b≠g->((w.alloc (.map #[] 0)).setCell ⟨g,k,none⟩ (.map (some w.heap.size))).heap[b]?=w.heap[b]?:=fun b hb hbg =>
  (Below.heap_setCell _ _ _ _ hbg).trans (heap_alloc_old w _ hb)
 have hrow:∃ c,w.heap[g]?=some (.cells c 84 (0,0)):=by obtain⟨c,h1,_⟩:=h.row;exact⟨c,h1⟩
 obtain⟨c,hc⟩:=hrow;refine⟨((h.row.alloc _).set k _).congr fun j hj=>?_,fun j hj h1=>?_,fun j b hj h1=>?_,fun j j' b hj hj' h1 h2=>?_,fun j j' b c hj hj' hne2 h1 h2 e he f hf=>?_⟩
 ·by_cases e:j=k
  ·rw[if_pos e,if_pos e]
  ·rw[if_neg e,if_neg e]
 ·by_cases e:j=k
  ·rw[if_pos e] at h1;cases h1
  ·rw[if_neg e] at h1;exact h.nil j hj h1
 ·by_cases e:j=k
  ·rw[if_pos e] at h1 ⊢;obtain rfl:=Option.some.inj h1;refine⟨⟨(Below.heap_setCell _ _ _ _ hne).trans (heap_alloc_new w _),hlo,fun e he=>(by cases he),List.Pairwise.nil,List.nodup_nil,fun e he=>(by cases he)⟩,fun f=>?_⟩;subst e;rw[h.nil j hj h0];rfl
  ·rw[if_neg e] at h1 ⊢;obtain⟨hm,hv⟩:=h.got j b hj h1;refine⟨⟨(old b hm.lt fun e2=>by have h9:=hm.blk;rw[e2,hc] at h9;cases h9).trans hm.blk,hm.ge,fun e he=>(hm.df e he).kept fun b' hb'=>old b' ((hm.df e he).blks b' hb').2 fun e2=>?_,hm.ap,hm.keys,hm.small⟩,hv⟩;obtain⟨cur,h3⟩:=DF.blkc (hm.df e he) hb';rw[e2,hc] at h3;simp at h3
 ·by_cases e:j=k <;> by_cases e':j'=k
  ·rw[e,e']
  ·rw[if_pos e] at h1;rw[if_neg e'] at h2;have:=(h.got j' b hj' h2).1.lt;have:=Option.some.inj h1;omega
  ·rw[if_neg e] at h1;rw[if_pos e'] at h2;have:=(h.got j b hj h1).1.lt;have:=Option.some.inj h2;omega
  ·rw[if_neg e] at h1;rw[if_neg e'] at h2;exact h.inj j j' b hj hj' h1 h2
 ·by_cases e1:j=k
  ·rw[if_pos e1] at he
   cases he
  ·by_cases e2:j'=k
   ·rw[if_pos e2] at hf
    cases hf
   ·rw[if_neg e1] at h1 he;rw[if_neg e2] at h2 hf;exact h.apk j j' b c hj hj' hne2 h1 h2 e he f hf
theorem MR.setBxs {w:World} {lo g d i:Nat} {A:List Tm} {bs:Nat->Option Nat} {Ms:Nat->List TE} (h:MR w lo g d i A bs Ms) {b:Nat} {t:TypeId} {l:List Value} (hb:Bxs w b t l) (ht:128≠t) (hne:g≠b) (o:Nat) (v:Value):MR (w.setCell ⟨b,o,none⟩ v) lo g d i A bs Ms :=
 ⟨h.row.setOther (a:=⟨b,o,none⟩) hne v,h.nil,fun k c hk h1=>⟨(h.got k c hk h1).1.setBxs hb ht o v,(h.got k c hk h1).2⟩,h.inj,h.apk⟩
theorem MR.add {w w':World} {lo g d i b:Nat} {A:List Tm} {bs:Nat->Option Nat} {Ms:Nat->List TE} (h:MR w lo g d i A bs Ms) {m:Mo} {q:Rat} (hk:m.at i<=d) (hb:bs (m.at i)=some b) (ho:Only b w w')
  {L':List TE} (hM:MK w' lo b L') (hL:L'.map tm=putT (m.cut i) q ((Ms (m.at i)).map tm)) (hS:∀ e∈L',e∈Ms (m.at i)\/∀ k c,k<=d->bs k=some c->∀ f∈Ms k,FV.apart e.1.c f.1.c):MR w' lo g d i (A++[(m,q)]) bs (fun k=>if k=m.at i then L' else Ms k) where
 row:=h.row.of_block (ho.2.2.2.2 g h.row.lt fun e=>by
  obtain⟨c,h1,_⟩:=h.row;rw[e,(h.got _ b hk hb).1.blk] at h1
  cases h1)
 nil k hkd h0:=by
  rw[coefP_snoc,h.nil k hkd h0,if_neg fun e=>by rw[<- e,show((m,q):Tm).1.at i=m.at i from rfl,hb] at h0;cases h0];rfl
 got k c hkd h1:=by
  by_cases e:k=m.at i
  ·subst e;obtain rfl:b=c:=Option.some.inj (hb.symm.trans h1);rw[if_pos rfl];refine⟨hM,fun f=>?_⟩;rw[hL,ev_putT,(h.got _ b hk hb).2 f,coefP_snoc,if_pos rfl,ev_append];show _=_+(q*f (m.cut i)+0);grind
  ·rw[if_neg e]
   have hne:c≠b:=fun hc=>e (h.inj k _ b hkd hk (by rw[h1,hc]) hb)
   refine⟨MK.only (h.got k c hkd h1).1 ho (h.got _ b hk hb).1.blk hne,fun f=>?_⟩;rw[coefP_snoc,if_neg fun hc=>e hc.symm,List.append_nil];exact(h.got k c hkd h1).2 f
 inj:=h.inj
 apk k j b1 c1 hk' hj' hne h1 h2 e he f hf:=by
  by_cases e1:k=m.at i
  ·rw[if_pos e1] at he;rw[if_neg fun h=>hne (e1.trans h.symm)] at hf
   rcases hS e he with h3 | h3
   ·exact h.apk k j b1 c1 hk' hj' hne h1 h2 e (by rw[e1];exact h3) f hf
   ·exact h3 j c1 hj' h2 f hf
  ·rw[if_neg e1] at he;by_cases e2:j=m.at i
   ·rw[if_pos e2] at hf
    rcases hS f hf with h3 | h3
    ·exact h.apk k j b1 c1 hk' hj' hne h1 h2 e he f (by rw[e2];exact h3)
    ·exact FV.apart.symm (h3 k b1 hk' h1 e he)
   ·rw[if_neg e2] at hf;exact h.apk k j b1 c1 hk' hj' hne h1 h2 e he f hf
structure SzG (n:Nat) (w:World):Prop where
 le:n<=w.heap.size
theorem SzG.below {n:Nat} {w w':World} (h:SzG n w) (hb:Below w.heap.size w w'):SzG n w':=⟨zm h.le hb.size⟩
theorem OT.blk {w:World} {lo:Nat} {x:PV} {ts:List TV} (h:OT w lo x.v ts) {p:Addr} (hp:x.a=some p):lo<=p.block/\p.block<w.heap.size:=by
 rcases h.2 with ⟨hv,_⟩ | ⟨g,cap,cur,hv,hlo,hg,_⟩
 ·injection hv with h1
  rw[hp] at h1
  cases h1
 ·injection hv with h1
  rw[hp] at h1
  cases h1
  exact⟨hlo,lt_of_block hg⟩
structure CZ (w:World) (lo:Nat) (z:PV) (P:List Tm) (D:List TE):Prop where
 row:OT w lo z.v (D.map Prod.fst)
 df:∀ e∈D,DF w lo e.1.c e.2
 ap:D.Pairwise (fun e f=>FV.apart e.1.c f.1.c)
 val:D.map tm=P
 small:∀ e∈D,e.1.m.Small
theorem CZ.dp {w:World} {lo:Nat} {z:PV} {P:List Tm} {D:List TE} (h:CZ w lo z P D) (hc:Canon P):DP w lo z P :=
 ⟨⟨D,h.row,h.df,h.ap,h.val⟩,hc,fun t ht=>by
  rw[<- h.val] at ht;obtain⟨e,he,rfl⟩:=List.mem_map.1 ht
  exact h.small e he⟩
theorem CZ.below {w w':World} {lo:Nat} {z:PV} {P:List Tm} {D:List TE} (h:CZ w lo z P D) (hb:Below w.heap.size w w'):CZ w' lo z P D :=
 ⟨OT.below h.row hb,fun e he=>(h.df e he).below hb,h.ap,h.val,h.small⟩
theorem CZ.nil (w:World) (lo:Nat):CZ w lo ⟨none,0,0⟩ [] []:=⟨World.ownsRow_nil _ _ _ _,fun e he=>(by cases he),List.Pairwise.nil,rfl,fun e he=>(by cases he)⟩
theorem SumD.cz {w w0:World} {s lo b:Nat} {x:PV} {L d:List TE} (h:SumD w s x L d) (hM:MK w0 lo b L) (hb:Below w0.heap.size w0 w) (hs:lo<=s):CZ w lo x (nf (L.map tm)) d :=
 ⟨OT.mono h.row hs,fun e he=>(hM.df e (h.mem e he)).below hb,h.ap,h.val,fun e he=>hM.small e (h.mem e he)⟩
structure PC (P:List Tm) (n k e:Nat):Prop where
 c:Canon P
 b:PB P n k e
theorem PC.up {P:List Tm} {n k e n' k' e':Nat} (h:PC P n k e) (hn:n<=n') (hk:k<=k') (he:e<=e'):PC P n' k' e':=⟨h.c,h.b.up hn hk he⟩
theorem PC.lq {P:List Tm} {n k e m:Nat} (h:PC P n k e) (hm:k<=m):∀ t∈P,LQ t.2 m:=fun t ht=>(h.b.lq t ht).up hm
theorem PC.nil (n k e:Nat):PC [] n k e:=⟨Canon.nil,PB.nil n k e⟩
theorem PC.add {P Q:List Tm} {n1 k1 e1 n2 k2 e2:Nat} (h1:PC P n1 k1 e1) (h2:PC Q n2 k2 e2) (k e:Nat) (a:k1<=k) (b:k2<=k) (c:e1<=e) (d:e2<=e):PC (addP P Q) (n1+n2) (2*k+1) e :=
 ⟨addP_canon _ _,PB.add h1.c h2.c (h1.b.up zj a c) (h2.b.up zj b d)⟩
theorem PC.mul {P Q:List Tm} {n1 k1 e1 n2 k2 e2:Nat} (h1:PC P n1 k1 e1) (h2:PC Q n2 k2 e2):PC (mulP P Q) (n1*n2) (n1*(k1+k2+1)) (e1+e2):=⟨mulP_canon _ _,PB.mulC h2.c h1.b h2.b⟩
theorem PC.of {q:Rat} {k:Nat} (h:LQ q k):PC (nf [(Mo.one,q)]) 1 (k+1) 0:=by
 have hb:PB [(Mo.one,q)] 1 k 0:=⟨zj,fun t ht=>by rw[List.mem_singleton.1 ht];exact h,fun t ht=>by rw[List.mem_singleton.1 ht];exact⟨zj,zj,zj,zj⟩⟩;have h1:=hb.nf;rw[Nat.one_mul] at h1;exact⟨nf_canon _,h1⟩
theorem KP.n_le {w:World} {x:PV} {P:List Tm} {n k e:Nat} (h:KP w x P) (b:PC P n k e):x.n<=n:=by rw[h.len];exact b.b.len
def rowT (T:TypeId):Bool:=T==37 || T==128
theorem DP.rows {w w':World} {lo:Nat} {x:PV} {P:List Tm} (h:DP w lo x P) (hs:∀ (b:Nat) (c:Array Value) (T:TypeId),w.heap[b]?=some (.cells c T (0,0))->rowT T=true->w'.heap[b]?=w.heap[b]?):DP w' lo x P:=by
 obtain⟨L,h1,h2,h3,h4⟩:=h.ex;refine⟨⟨L,⟨h1.1,h1.2.imp id ?_⟩,fun e he=>(h2 e he).kept fun b hb=>?_,h3,h4⟩,h.canon,h.small⟩
 ·rintro⟨g,cap,cur,hv,hlo,hgk,h3⟩;exact⟨g,cap,cur,hv,hlo,(hs g _ _ hgk rfl).trans hgk,h3⟩
 ·obtain⟨cur,h5⟩:=DF.blkc (h2 e he) hb;exact hs b _ _ h5 rfl
theorem RawQ.gr {w:World} {x:PV} {L:List TO} (h:RawQ w x L):RT w x.a (L.map Prod.fst)/\(L.map Prod.fst).length=x.n:=⟨h.1,by rw[List.length_map];exact h.2.1⟩
theorem great1P {w:World} {g m:Nat} {x:PV} {L:List TO} (hb:Bxs w g 23 [x.v]) (h1:RawQ w x L) (hm:m<=1000) :
  Calls Tryz.prog 5 #[.int .i64 m,.slice (some ⟨g,0,none⟩) 1 1] w (BR w (NotGreat m (L.map Prod.fst))) :=
 (pgreat_any g m 1 [(x,L.map Prod.fst)] w rfl (fun i e h=>by match i,h with | 0,h=>exact(Option.some.inj h)▸hb.ce 0) (fun e he=>by rw[List.mem_singleton.1 he];exact h1.gr) (by simp) hm).mono
  fun e w' ⟨b,g1,g2,g3⟩=>⟨b,g1,fun hb=>g2 hb _ (List.mem_singleton.2 rfl),g3⟩
theorem pwide {w:World} {x:PV} {L:List TO} {m:Nat} (h:RawQ w x L) (hg:NotGreat m (L.map Prod.fst)) (hm:m<=1000):Calls Tryz.prog 6 #[x.v] w (BR w (∀ e∈L,e.1.m.le 300)) :=
 (wide_any x (L.map Prod.fst) w h.1 (by rw[List.length_map];exact h.2.1) (by have h1:=hg.1;rw[List.length_map,h.2.1] at h1;omega)).mono fun e w' ⟨b,g1,g2,g3⟩=>⟨b,g1,fun hb e he=>g2 hb e.1 (List.mem_map_of_mem he),g3⟩
theorem RawQ.rawP {w:World} {x:PV} {L:List TO} {m:Nat} (h:RawQ w x L) (hg:NotGreat m (L.map Prod.fst)):RawP w x L:=h.raw fun e he=>by
 obtain⟨h1,h2⟩:=hg.2 e.1 (List.mem_map_of_mem he);exact⟨zm h1 (by decide),zm h2 (by decide)⟩
theorem raw_cases {w:World} {x:PV} {L:List TO} {m E:Nat} (h:RawQ w x L) (hg:NotGreat m (L.map Prod.fst)) (hw:∀ e∈L,e.1.m.le E):(∃ P,KP w x P/\PC P m 4 E)\/BP w x:=by
 have hr:=h.rawP hg;by_cases hk:okP L
 ·obtain⟨P,hv,hc⟩:=hk;refine Or.inl ⟨P,hr.kp hv hc,hc,?_⟩;obtain⟨K,hK,hP⟩:=vals_spec hv
  have hin:∀ e∈K,(e.1,some e.2)∈L:=fun e he=>by rw[hK];exact List.mem_map_of_mem he
  refine⟨?_,fun t ht=>?_,fun t ht=>?_⟩
  ·have h1:=hg.1;rw[List.length_map,hK,List.length_map] at h1;rw[<- hP,List.length_map];exact h1
  ·rw[<- hP] at ht;obtain⟨e,he,rfl⟩:=List.mem_map.1 ht;have h1:KF w e.1.c e.2:=hr.2.2.2.1 _ (hin e he);obtain⟨h2,h3⟩:=hg.2 e.1 (List.mem_map_of_mem (f:=Prod.fst) (hin e he));exact h1.lq ⟨h2,zm h3 (by decide)⟩
  ·rw[<- hP] at ht;obtain⟨e,he,rfl⟩:=List.mem_map.1 ht;exact hw _ (hin e he)
 ·exact Or.inr ⟨L,hr,hk⟩
theorem BP.n_le {w:World} {x:PV} {L:List TO} {m:Nat} (h:RawQ w x L) (hg:NotGreat m (L.map Prod.fst)):x.n<=m:=by
 have h1:=hg.1;rw[List.length_map,h.2.1] at h1;exact h1
def R2 (w:World) (p q:Int) (e:Ending) (w':World):Prop:=∃ x y:NV,e=.returned (.agg #[.bool x.s,.slice x.a x.n x.c,.bool y.s,.slice y.a y.n y.c])/\DN w' w.heap.size x p/\DN w' w.heap.size y q/\Below w.heap.size w w'
theorem infoL:(Tryz.prog.info? 84).map (fun i=>(i.zero,i.size,i.bytes))=some (some (.map none),1,8):=by kernel_rfl
theorem infoP:(Tryz.prog.info? 23).map (fun i=>(i.zero,i.size,i.bytes))=some (some (.slice none 0 0),1,24):=by kernel_rfl
abbrev OC (w:World) (lo:Nat) (v:Value) (Zs:List PV):Prop:=w.ownsRow lo 23 1 v Zs.length (Zs.map PV.v)
theorem OC.below {w w':World} {lo:Nat} {v:Value} {Zs:List PV} (h:OC w lo v Zs) (hb:Below w.heap.size w w'):OC w' lo v Zs:=by
 refine⟨h.1,h.2.imp id ?_⟩;rintro⟨g,cap,cur,hv,hlo,hg,h3⟩;exact⟨g,cap,cur,hv,hlo,(hb.block g (lt_of_block hg)).trans hg,h3⟩
theorem MR.new {w:World} {lo d i:Nat}:MR (w.alloc (.cells (madeCells #[.map none] (d+1)) 84)) lo w.heap.size d i [] (fun _=>none) (fun _=>[]) :=
 ⟨World.rowIs_made w (.map none) (d+1) 84,fun _ _ _=>rfl,fun _ _ _ h=>(by cases h),fun _ _ _ _ _ h=>(by cases h),fun _ _ _ _ _ _ _ h=>(by cases h)⟩
theorem MR.lqs {w:World} {lo g d i:Nat} {A:List Tm} {bs:Nat->Option Nat} {Ms:Nat->List TE} (h:MR w lo g d i A bs Ms) (hA:Canon A) {K:Nat} (hq:∀ t∈A,LQ t.2 K) (hK:K<=900000) {k b:Nat} (hk:k<=d) (hb:bs k=some b):∀ e∈Ms k,LQ e.2 900000:=fun e he=>by
 obtain⟨hM,hv⟩:=h.got k b hk hb;refine like_lq (l:=(Ms k).map tm) (L:=coefP A i k) ?_ hv (fun m=>canon_cf (coefP_canon hA i k) (coefP_lq hq i k) m) hK (tm e) (List.mem_map_of_mem he);have h:=hM.keys;rw[List.map_map];exact h
theorem eq_nil (w:World):(binOp BinOp.eql 84 (.map none) (.map none)).run Tryz.prog w=.ok (.bool true) w:=by kernel_rfl
theorem eq_map (b:Nat) (w:World):(binOp BinOp.eql 84 (.map (some b)) (.map none)).run Tryz.prog w=.ok (.bool false) w:=by kernel_rfl
theorem OC.own {w:World} {lo:Nat} {v:Value} {Zs:List PV} (h:OC w lo v Zs) {k:Nat} (hk:some k=v.ownBlock):lo<=k/\∃ cur,w.heap[k]?=some (.cells cur 23 (0,0)):=by
 rcases h.2 with ⟨hv,_⟩ | ⟨g,cap,cur,hv,hlo,hg,_⟩
 ·rw[hv] at hk;cases hk
 ·rw[hv] at hk;have hk:some k=some g:=hk
  cases hk
  exact⟨hlo,cur,hg⟩
theorem DP.grown {w w':World} {lo lo2:Nat} {x:PV} {P:List Tm} {v:Value} {Zs:List PV} (h:DP w lo x P) (ho:OC w lo2 v Zs) (hg:w.grownBy w' v.ownBlock):DP w' lo x P:=by
 obtain⟨L,h1,h2,h3,h4⟩:=h.ex;refine⟨⟨L,⟨h1.1,h1.2.imp id ?_⟩,fun e he=>(h2 e he).kept fun b hb=>?_,h3,h4⟩,h.canon,h.small⟩
 ·rintro⟨g,cap,cur,hv,hlo,hgk,h3⟩
  exact⟨g,cap,cur,hv,hlo,(hg.block g (lt_of_block hgk) fun e=>by
   obtain⟨_,c2,h5⟩:=ho.own e;rw[hgk] at h5
   simp at h5).trans hgk,h3⟩
 ·obtain⟨cur,h5⟩:=DF.blkc (h2 e he) hb
  exact hg.block b (lt_of_block h5) fun e=>by
   obtain⟨_,c2,h6⟩:=ho.own e;rw[h5] at h6;simp at h6
theorem MK.grown {w w':World} {lo lo2 b:Nat} {L:List TE} {v:Value} {Zs:List PV} (h:MK w lo b L) (ho:OC w lo2 v Zs) (hg:w.grownBy w' v.ownBlock):MK w' lo b L :=
 ⟨(hg.block b h.lt fun e=>by
   obtain⟨_,c2,h5⟩:=ho.own e;rw[h.blk] at h5
   cases h5).trans h.blk,h.ge,fun e he=>(h.df e he).kept fun b' hb=>by
  obtain⟨cur,h5⟩:=DF.blkc (h.df e he) hb
  exact hg.block b' (lt_of_block h5) fun e=>by
   obtain⟨_,c2,h6⟩:=ho.own e;rw[h5] at h6
   simp at h6,h.ap,h.keys,h.small⟩
theorem MR.grown {w w':World} {lo g d i lo2:Nat} {A:List Tm} {bs:Nat->Option Nat} {Ms:Nat->List TE} {v:Value} {Zs:List PV} (h:MR w lo g d i A bs Ms) (ho:OC w lo2 v Zs) (hg:w.grownBy w' v.ownBlock):MR w' lo g d i A bs Ms :=
 ⟨h.row.of_block (hg.block g h.row.lt fun e=>by
   obtain⟨_,c2,h5⟩:=ho.own e;obtain⟨c,h6,_⟩:=h.row;rw[h6] at h5
   simp at h5),h.nil,fun k b hk h1=>⟨(h.got k b hk h1).1.grown ho hg,(h.got k b hk h1).2⟩,h.inj,h.apk⟩
theorem CZ.grown {w w':World} {lo lo2:Nat} {x:PV} {P:List Tm} {D:List TE} {v:Value} {Zs:List PV} (h:CZ w lo x P D) (ho:OC w lo2 v Zs) (hg:w.grownBy w' v.ownBlock):CZ w' lo x P D:=by
 refine⟨⟨h.row.1,h.row.2.imp id ?_⟩,fun e he=>(h.df e he).kept fun b hb=>?_,h.ap,h.val,h.small⟩
 ·rintro⟨g,cap,cur,hv,hlo,hgk,h3⟩
  exact⟨g,cap,cur,hv,hlo,(hg.block g (lt_of_block hgk) fun e=>by
   obtain⟨_,c2,h5⟩:=ho.own e;rw[hgk] at h5
   simp at h5).trans hgk,h3⟩
 ·obtain⟨cur,h5⟩:=DF.blkc (h.df e he) hb
  exact hg.block b (lt_of_block h5) fun e=>by
   obtain⟨_,c2,h6⟩:=ho.own e;rw[h5] at h6;simp at h6
def CoefS (w:World) (P:List Tm) (i:Nat) (e:Ending) (w':World):Prop :=
 ∃ (v:Value) (Zs:List PV) (Ds:Nat->List TE),e=.returned v/\OC w' w.heap.size v Zs/\(Zs.length:Int)=degP P i+1/\(∀ k z,Zs[k]?=some z->CZ w' w.heap.size z (coefP P i k) (Ds k)) /\
  (∀ (k l:Nat) (z y:PV),k<l->Zs[k]?=some z->Zs[l]?=some y->(∀ p q:Addr,z.a=some p->y.a=some q->p.block≠q.block)/\∀ e∈Ds k,∀ f∈Ds l,FV.apart e.1.c f.1.c)/\Below w.heap.size w w'
structure CoefL (w:World) (P:List Tm) (g d i j:Nat) (v:Value) (bs:Nat->Option Nat) (Ms:Nat->List TE) (Zs:List PV) (Ds:Nat->List TE) (wr:World):Prop where
 row:OC wr w.heap.size v Zs
 len:Zs.length=j
 cz:∀ k z,Zs[k]?=some z->CZ wr w.heap.size z (coefP P i k) (Ds k)
 dm:∀ k,k<j->∀ e∈Ds k,∃ c,bs k=some c/\e∈Ms k
 ne:∀ (k l:Nat) (z y:PV),k<l->Zs[k]?=some z->Zs[l]?=some y->∀ p q:Addr,z.a=some p->y.a=some q->p.block≠q.block
 mr:MR wr w.heap.size g d i P bs Ms
 bel:Below w.heap.size w wr
theorem CoefL.below {w:World} {P:List Tm} {g d i j:Nat} {v:Value} {bs:Nat->Option Nat} {Ms:Nat->List TE} {Zs:List PV} {Ds:Nat->List TE} {wr wx:World} (h:CoefL w P g d i j v bs Ms Zs Ds wr) (hb:Below wr.heap.size wr wx):CoefL w P g d i j v bs Ms Zs Ds wx :=
 ⟨h.row.below hb,h.len,fun k z hz=>(h.cz k z hz).below hb,h.dm,h.ne,h.mr.below hb,h.bel.trans (hb.mono h.bel.size)⟩
theorem CoefL.old {w:World} {P:List Tm} {g d i j:Nat} {v:Value} {bs:Nat->Option Nat} {Ms:Nat->List TE} {Zs:List PV} {Ds:Nat->List TE} {wr:World} (h:CoefL w P g d i j v bs Ms Zs Ds wr) (k:Nat) (y:PV) (hy:Zs[k]?=some y) (p:Addr) (hp:y.a=some p):p.block<wr.heap.size:=(OT.blk (h.cz k y hy).row hp).2
theorem CoefL.push {w:World} {P:List Tm} {g d i j n0:Nat} {v v':Value} {bs:Nat->Option Nat} {Ms:Nat->List TE} {Zs:List PV} {Ds:Nat->List TE} {wr wx:World} {z:PV} {D:List TE} (h:CoefL w P g d i j v bs Ms Zs Ds wr) (hz:CZ wr w.heap.size z (coefP P i j) D)
  (hD:∀ e∈D,∃ c,bs j=some c/\e∈Ms j) (hold:∀ (k:Nat) (y:PV),Zs[k]?=some y->∀ p:Addr,y.a=some p->p.block<n0) (hf:∀ p:Addr,z.a=some p->n0<=p.block)
  (ho:OC wx w.heap.size v' (Zs++[z])) (hg:(wr.alloc (.cells #[z.v] 23)).grownBy wx v.ownBlock):CoefL w P g d i (j+1) v' bs Ms (Zs++[z]) (fun k=>if k=j then D else Ds k) wx:=by
 have hb:Below wr.heap.size wr (wr.alloc (.cells #[z.v] 23)):=zk.alloc zj _;have h2:=h.below hb
 have hget:∀ (k:Nat) (y:PV),(Zs++[z])[k]?=some y->(k<j/\Zs[k]?=some y)\/(k=j/\y=z):=fun k y hy=>by
  by_cases hk:k<Zs.length
  ·rw[List.getElem?_append_left hk] at hy;exact Or.inl ⟨by rw[<- h.len];exact hk,hy⟩
  ·have hk2:=(List.getElem?_eq_some_iff.1 hy).1;rw[List.length_append] at hk2
   have hk3:k=Zs.length:=by simp at hk2;omega
   subst hk3;rw[List.getElem?_append_right zj,Nat.sub_self] at hy;have hy:some z=some y:=hy
   cases hy
   exact Or.inr ⟨h.len,rfl⟩
 refine⟨ho,by rw[List.length_append,h.len];rfl,fun k y hy=>?_,fun k hk e he=>?_,fun k l y1 y2 hkl h3 h4 p q hp hq=>?_,h2.mr.grown h2.row hg,h2.bel.grown hg h2.bel.size fun k hk=>(h2.row.own hk.symm).1⟩
 ·rcases hget k y hy with ⟨hk,hy⟩ | ⟨rfl,rfl⟩
  ·rw[if_neg (Nat.ne_of_lt hk)];exact(h2.cz k y hy).grown h2.row hg
  ·rw[if_pos rfl];exact(hz.below hb).grown h2.row hg
 ·by_cases e1:k=j
  ·rw[if_pos e1] at he;rw[e1];exact hD e he
  ·rw[if_neg e1] at he;exact h.dm k (by omega) e he
 ·rcases hget k y1 h3 with ⟨hk,h5⟩ | ⟨rfl,rfl⟩
  ·rcases hget l y2 h4 with ⟨hl,h6⟩ | ⟨rfl,rfl⟩
   ·exact h.ne k l y1 y2 hkl h5 h6 p q hp hq
   ·have g1:=hold k y1 h5 p hp;have g2:=hf q hq;omega
  ·rcases hget l y2 h4 with ⟨hl,_⟩ | ⟨h5,_⟩ <;> omega
theorem coefs_s (li:Nat) (hi:li<4) (x:PV) (P:List Tm) (k:Nat) (w:World) (hx:AP w x P) (hp:∀ t∈P,LQ t.2 k) (hn:x.n<=1000000) (hk:k<=900000) :
  Calls Tryz.prog 10 #[x.v,.int .i64 (li:Int)] w (CoefS w P li):=by
 have HI:=qh hi
 have hi1:(li:Int)<4:=by omega
 have hi2:¬((li:Int)<0):=by omega
 have hi3:(0:Int)<=(li:Int):=by omega
 have HX:=qh hx;have HP:=qh hp;have HN:=qh hn;have HK:=qh hk
 have hp9:∀ t∈P,LQ t.2 900000:=fun t ht=>(hp t ht).up hk
 have HP9:=qh hp9;have DG:=qh (degree_k li hi x P w hx hp9 hn);have HD0:=qh (degP_ge P li);obtain⟨D,hD⟩:∃ D,D=degP P li:=⟨_,rfl⟩;have HD:=qh hD;rw[<- hD] at DG HD0;obtain⟨xa,xn,xc⟩:=x;change Calls Tryz.prog 10 #[.slice xa xn xc,.int .i64 (li:Int)] w _
 have hmm:=fun (t:TypeId) (w:World)=>run_makeMap (P:=Tryz.prog) t w
 clear hi hx hp hn hk hp9 hD;go_enter Tryz.func10,Tryz.ntmps10;go_wp2_with fail
 with_reducible refine DG.o.mono ?_
 rintro e w1 ⟨rfl,hb⟩;have KG:=qh hb;clear hb DG;by_cases hneg:D<0
 ·have HNG:=qh hneg;go_wp2_with fail
  go_ret;refine⟨.slice none 0 0,[],fun _=>[],rfl,World.ownsRow_nil _ _ _ _,?_,fun k z h=>(by simp at h),fun k l z y _ h=>(by simp at h),KG.o⟩;rw[<- HD.o];have h1:=HNG.o;have h2:=HD0.o;show(0:Int)=_;omega
 ·obtain⟨d,rfl⟩:∃ d:Nat,D=(d:Int):=⟨D.toNat,by omega⟩
  have hne:P≠[]:=fun e=>by
   have h1:=HD.o;rw[e] at h1;have h2:degP [] li = -1:=rfl;rw[h2] at h1;omega
  have hd6:d<=65535:=by
   obtain⟨t,ht,h1⟩:=degP_has hne li;rw[<- HD.o] at h1;have h2:=at_small (HX.o.small t ht) li;omega
  have HNE:=qh hne;have HD6:=qh hd6;have e1:IntKind.i64.wrap ((d:Int)+1)=(d:Int)+1:=IntWalk.i64_in _ (by omega);have hmk:=run_make_row' (P:=Tryz.prog) 82 84 (.map none) 8 Tryz.underlying82 infoL rfl .i64 .i64 (d+1) (by omega) (by omega);rw[show((d+1:Nat):Int)=(d:Int)+1 from rfl] at hmk;clear hne hneg hd6
  go_upto_region 5 with (fail)
  obtain⟨V1,hV⟩:∃ V,V=w1.alloc (.cells (madeCells #[.map none] (d+1)) 84):=⟨_,rfl⟩
  have hbV:Below w1.heap.size w1 V1:=by rw[hV];exact zk.alloc zj _
  have HR:=qh (show MR V1 w.heap.size w1.heap.size d li [] (fun _=>none) (fun _=>[]) by rw[hV];exact MR.new);obtain⟨g,hg⟩:∃ g,g=w1.heap.size:=⟨_,rfl⟩;have HG:=qh (show w.heap.size<=g by rw[hg];exact KG.o.size);rw[<- hg] at HR;rw[<- hV,<- hg];have KG:=qk KG hbV;clear hV hbV hg hmk e1;have OF:=qh (of_at HX.o KG.o HP9.o (by have h:=HN.o;show xn<=_;exact zm h (by decide)));go_wp2_with fail
  with_reducible refine OF.o.mono ?_
  rintro e w2 ⟨⟨ya,yn,yc⟩,he,hy,hyn,hb⟩;obtain rfl:e=.returned (.slice ya yn yc):=he;have HY:=qh hy;have HR:=qh (HR.o.below hb);have KG:=qk KG hb;have hyl:=hy.len;change yn=P.length at hyl;have HYN:=qh (show yn<=1000000 from zm hyn HN.o);have HYL:=qh hyl;obtain⟨L1,g1,g2,g3,g4⟩:=hy.ex;have R1:=qh g1;have F1:=qh g3;have T1:=qh g4;have N1:=qh (show L1.length=yn from g2);clear hy hyn hb OF hyl g1 g2 g3 g4;go_wp2_with fail
  go_loopw [24] (fun i wr=>∃ (j:Nat) (bs:Nat->Option Nat) (Ms:Nat->List TE),j<=yn/\i=.int .i64 j/\MR wr w.heap.size g d li (P.take j) bs Ms/\(∀ k,(Ms k).length<=j)/\Below w.heap.size w wr) (fun i _=>yn-(intOf i).toNat)
  case atStart =>
   exact⟨0,(fun _=>none),(fun _=>[]),Nat.zero_le _,rfl,(by rw[zy];exact HR.o),fun k=>zj,KG.o⟩
  case round =>
   obtain⟨j,bs,Ms,hj,rfl,hM,hmn,hb0⟩:=hrel;have HJ:=qh hj;have HR:=qh hM;have HMN:=qh hmn;have KG:=qh hb0;clear hj hM hmn hb0;by_cases hjn:j<yn
   ·have HJN:=qh hjn
    have hjl:j<L1.length:=by rw[N1.o];exact hjn
    obtain⟨pb,po,rfl,hpb,hcs⟩:=(R1.o.below KG.o).off (i:=j) (by rw[List.length_map];exact hjl);obtain⟨e,he⟩:∃ e,L1[j]?=some e:=⟨_,List.getElem?_eq_getElem hjl⟩;obtain⟨t,q⟩:=e;obtain⟨c0,c1,c2,c3,c4,c5,c6,c7⟩:=RT.eight hcs (i:=j) (t:=t) (by rw[List.getElem?_map,he];rfl);have hmem:=List.mem_of_getElem? he
    have hpj:P[j]?=some (t.m,q):=by rw[<- T1.o,List.getElem?_map,he];rfl
    have HPJ:=qh hpj;have hpm:=List.mem_of_getElem? hpj;have KT:=qh (show ∀ W,Below w.heap.size w W->KF W t.c q from fun W h=>(F1.o _ hmem).below h);have LQq:=qh (show LQ q 900000 from HP9.o _ hpm);have HS1:=qh (show t.m.Small from HY.o.small _ hpm)
    have hcd:t.m.at li<=d:=by
     have h1:((t.m.at li:Nat):Int)<=degP P li:=degP_le hpm;rw[<- HD.o] at h1;exact Int.ofNat_le.1 h1
    have HCD:=qh (show t.m.at li<=d from hcd);have HC:=qh (show((t.m.at li:Nat):Int)<((d:Int)+1) by omega);have HC2:=qh (show((t.m.at li:Nat):Int)<((d+1:Nat):Int) by omega);have HC3:=qh (show t.m.at li<d+1 by omega)
    go_upto_region 8 with (fail)
    obtain⟨V0,hV⟩:∃ V,V=wr.alloc (.cells #[.bool t.c.t.s,.slice t.c.t.a t.c.t.n t.c.t.c,.bool t.c.l.s,.slice t.c.l.a t.c.l.n t.c.l.c,.int .u16 t.m.x,.int .u16 t.m.y,.int .u16 t.m.z,.int .u16 t.m.t] 37):=⟨_,rfl⟩
    have hbV:Below wr.heap.size wr V0:=by rw[hV];exact zk.alloc zj _
    have B8:=qh (show Bxs V0 wr.heap.size 37 [.bool t.c.t.s,.slice t.c.t.a t.c.t.n t.c.t.c,.bool t.c.l.s,.slice t.c.l.a t.c.l.n t.c.l.c,.int .u16 t.m.x,.int .u16 t.m.y,.int .u16 t.m.z,.int .u16 t.m.t] by rw[hV];exact Bxs.new wr 37 [.bool t.c.t.s,.slice t.c.t.a t.c.t.n t.c.t.c,.bool t.c.l.s,.slice t.c.l.a t.c.l.n t.c.l.c,.int .u16 t.m.x,.int .u16 t.m.y,.int .u16 t.m.z,.int .u16 t.m.t]);obtain⟨A8,hA8⟩:∃ A,A=wr.heap.size:=⟨_,rfl⟩;have HLA:=qh (show w.heap.size<=A8 by rw[hA8];exact KG.o.size);have HGA:=qh (show g≠A8 by rw[hA8];have:=HR.o.row.lt;omega);have HGA2:=qh (show A8≠g by have:=HGA.o;omega);rw[<- hV,<- hA8];rw[<- hA8] at B8;have HR:=qh (HR.o.below hbV);have KG:=qk KG hbV;have ek:IntKind.i64.wrap ((j:Int)+1)=(j:Int)+1:=IntWalk.i64_in _ (by have:=HJN.o;have:=HYN.o;omega);have hc:=HC.o;have hc2:=HC2.o;clear hV hbV hA8 hmem hpj hpm hpb hcs he hjl c0 c1 c2 c3 c4 c5 c6 c7 hjn hcd;have hrc:=HR.o.row.cell HC3.o;have c88:=B8.o.cell (i:=4+li) (at_cell _ _ _ _ _ HI.o);obtain⟨ob,hob⟩:∃ o,o=bs (t.m.at li):=⟨_,rfl⟩;rw[<- hob] at hrc;have HOB:=qh hob;clear hob
    rcases ob with _ | b
    ·have hr2:=(HR.o.row.alloc (.map #[] 0)).cell HC3.o;have hr3:=(HR.o.row.alloc (.map #[] 0)).frozen (t.m.at li);rw[show bs (t.m.at li)=none from HOB.o.symm] at hr2;have hq:=eq_nil
     go_upto_region 11 with (fail)
     clear hq;obtain⟨b,hb⟩:∃ b,b=V0.heap.size:=⟨_,rfl⟩;obtain⟨V1,hV⟩:∃ V,V=(V0.alloc (.map #[] 0)).setCell ⟨g,t.m.at li,none⟩ (.map (some V0.heap.size)):=⟨_,rfl⟩;rw[<- hV]
     obtain⟨bs',hbs⟩:∃ f:Nat->Option Nat,f=fun j=>if j=t.m.at li then some V0.heap.size else bs j:=⟨_,rfl⟩
     obtain⟨Ms',hms⟩:∃ f:Nat->List TE,f=fun j=>if j=t.m.at li then [] else Ms j:=⟨_,rfl⟩
     have HR:=qh (show MR V1 w.heap.size g d li (P.take j) bs' Ms' by rw[hV,hbs,hms];exact MR.fill HR.o HCD.o HOB.o.symm KG.o.size)
     have HMN:=qh (show ∀ k,(Ms' k).length<=j from fun k=>by
      rw[hms];show(if k=t.m.at li then [] else Ms k).length<=j;split
      ·exact Nat.zero_le _
      ·exact HMN.o k)
     have HBS:=qh (show bs' (t.m.at li)=some b by rw[hbs,hb];exact if_pos rfl);have B8:=qh (show Bxs V1 A8 37 [.bool t.c.t.s,.slice t.c.t.a t.c.t.n t.c.t.c,.bool t.c.l.s,.slice t.c.l.a t.c.l.n t.c.l.c,.int .u16 t.m.x,.int .u16 t.m.y,.int .u16 t.m.z,.int .u16 t.m.t] by rw[hV];exact(B8.o.alloc _).other HGA2.o _);have KG:=qh (show Below w.heap.size w V1 by rw[hV];exact(KG.o.alloc KG.o.size _).setCell HG.o _);clear hV hbs hms hb hr2 hr3 hrc c88;have HV:=qh (MR.setBxs HR.o B8.o (by decide) HGA.o (4+li) (.int .u16 0));have NT:=qh (KT.o V1 KG.o);have c88:=B8.o.cell (i:=4+li) (at_cell _ _ _ _ _ HI.o);have c8f:=B8.o.fz;have c8l:=B8.o.lt
     go_upto_region 12 with (fail)
     clear c8f c8l;obtain⟨m,hm⟩:∃ m,m=t.m.cut li:=⟨_,rfl⟩;obtain⟨V,hV⟩:∃ V,V=V1.setCell ⟨A8,4+li,none⟩ (.int .u16 0):=⟨_,rfl⟩;rw[<- hV];have HR:=qh (show MR V w.heap.size g d li (P.take j) bs' Ms' by rw[hV];exact HV.o);have KG:=qh (show Below w.heap.size w V by rw[hV];exact KG.o.setCell HLA.o _);have NT:=qh (show KF V t.c q from KT.o V KG.o);have B8:=qh (show Bxs V A8 37 [.bool t.c.t.s,.slice t.c.t.a t.c.t.n t.c.t.c,.bool t.c.l.s,.slice t.c.l.a t.c.l.n t.c.l.c,.int .u16 m.x,.int .u16 m.y,.int .u16 m.z,.int .u16 m.t] by rw[hV,hm];exact put_cut B8.o HI.o);have HLG:=qh (show g<V.heap.size from HR.o.row.lt)
     have CG:=qh (show ∀ w',Below V.heap.size V w'->w'.cell? ⟨g,t.m.at li,none⟩=some (.map (some b)) from fun w' hb=>by
      rw[(HR.o.row.of_block (hb.block g HLG.o)).cell HC3.o,HBS.o])
     have HSM:=qh (show m.Small by rw[hm];exact cut_small HS1.o li);have HMC:=qh hm;have HSZ:=qh (show w.heap.size<=V.heap.size from KG.o.size);have HMV:=qh (show ∀ k c,k<=d->bs' k=some c->∀ e∈Ms' k,∀ b,FV.blk e.1.c b->b<V.heap.size from fun k c hk hc e he b' hb'=>(((HR.o.got k c hk hc).1.df e he).blks b' hb').2);have HSV:=qh (show SzG V.heap.size V from⟨zj⟩);clear hV hm c88 HV;obtain⟨q101,hq101⟩:∃ z:Rat,z=((1:Int):Rat):=⟨_,rfl⟩;have Hq101:=qh hq101;have LQq101:=qh (show LQ q101 3 by rw[hq101];exact LQ.int (by decide) (by decide));clear hq101;obtain⟨q102,hq102⟩:∃ z:Rat,z=q*q101:=⟨_,rfl⟩;have Hq102:=qh hq102;have LQq102:=qh (show LQ q102 1800000 by rw[hq102];exact LQ.mul (LQq.o.up (by decide:_<=900000)) (LQq101.o.up (by decide:_<=900000)) (by decide));clear hq102
     go_upto_region 12 with (fail)
     refine FS.wp_region_fresh 10 [] (FS.spOf [(6,FS.Sp.made (fun x:FV=>x.v) (fun x w'=>DF w' V.heap.size x q101) FV.blk),(7,FS.Sp.made (fun x:FV=>x.v) (fun x w'=>DF w' V.heap.size x q102) FV.blk)])
      (fun w'=>Below V.heap.size V w') (by kernel_rfl) (by kernel_rfl) (by kernel_rfl)
      (FS.spOf_cons (FS.Sp.made_keeps _ (fun _ _ _ h _ hk=>h.kept hk) (FS.notTaken (by kernel_rfl))) (FS.spOf_cons (FS.Sp.made_keeps _ (fun _ _ _ h _ hk=>h.kept hk) (FS.notTaken (by kernel_rfl))) (FS.spOf_nil))) (fun _ _ h hb=>h.trans (hb.mono h.size)) (zk.drew) ?_
     simp only[zu,zi,ze,zx,zy,zv,zw]
     iterate 6
      refine FS.wpF_reads rfl rfl rfl ?_ (fun w' hw'=>?_) ?_;rotate_left
      ·have hb':=hw'.world;have hc:=HC.o;have hc2:=HC2.o;have hs:=CG.o w' hb';have hs0:=(B8.o.bl hb').ce 0;have hs1:=(B8.o.bl hb').ce 1;have hs2:=(B8.o.bl hb').ce 2;have hs3:=(B8.o.bl hb').ce 3;have hs4:=(B8.o.bl hb').ce 4;have hs5:=(B8.o.bl hb').ce 5;have hs6:=(B8.o.bl hb').ce 6;have hs7:=(B8.o.bl hb').ce 7;have hsf:=(B8.o.bl hb').fz;have hsl:=(B8.o.bl hb').lt;clear hw';go_simp
       try rfl
      conv=>arg 10;simp only[Act.put,zq0,zq1,zq2]
     refine FS.wpF_spec rfl rfl rfl (fun w' hw'=>?_) ?_
     ·have hb':=hw'.world;refine FS.gives_of (FS.PM (fun x:FV=>x.v) (fun x w'=>DF w' V.heap.size x q101) FV.blk w'.heap.size) ?_ (fun _ _ h=>h.post (fun _ _=>FV.inj));go_simp;have CT:=qof 1 w' (by decide) (by decide);rw[show((1:Int):Rat)=q101 from Hq101.o.symm] at CT;refine CT.mono ?_;rintro e w'' ⟨za,rfl,ho,hb⟩;exact⟨_,rfl,⟨za,rfl,ho.mono hb'.size,ho.blks⟩,hb⟩
     rintro _ ⟨y6,rfl⟩
     conv=>arg 10;simp only[Act.put,zq0,zq1,zq2]
     refine FS.wpF_spec rfl rfl rfl (fun w' hw'=>?_) ?_
     ·have hb':=hw'.world;refine FS.gives_of (FS.PM (fun x:FV=>x.v) (fun x w'=>DF w' V.heap.size x q102) FV.blk w'.heap.size) ?_ (fun _ _ h=>h.post (fun _ _=>FV.inj));go_simp;have f6:=FS.made_of (val:=(fun x:FV=>x.v)) (Φ:=fun x w'=>DF w' V.heap.size x q101) (fun _ _=>FV.inj) (hw'.fact 6 (by kernel_rfl));have CT:=qmul ((NT.o.below hb')).any (((NT.o.below hb')).len LQq.o (by decide:_<=900000)) (f6).k.any (((f6).k).len LQq101.o (by decide:_<=900000));rw[show q*q101=q102 from Hq102.o.symm] at CT;refine CT.mono ?_;rintro e w'' ⟨za,rfl,ho,hb⟩;exact⟨_,rfl,⟨za,rfl,ho.mono hb'.size,ho.blks⟩,hb⟩
     rintro _ ⟨y7,rfl⟩
     conv=>arg 10;simp only[Act.put,zq0,zq1,zq2]
     iterate 2
      refine FS.wpF_reads rfl rfl rfl ?_ (fun w' hw'=>?_) ?_;rotate_left
      ·have hb':=hw'.world;have hs0:=(B8.o.bl hb').ce 0;have hs1:=(B8.o.bl hb').ce 1;have hs2:=(B8.o.bl hb').ce 2;have hs3:=(B8.o.bl hb').ce 3;have hs4:=(B8.o.bl hb').ce 4;have hs5:=(B8.o.bl hb').ce 5;have hs6:=(B8.o.bl hb').ce 6;have hs7:=(B8.o.bl hb').ce 7;have hsf:=(B8.o.bl hb').fz;have hsl:=(B8.o.bl hb').lt;clear hw';go_simp
       try rfl
      conv=>arg 10;simp only[Act.put,zq0,zq1,zq2]
     refine FS.wpF_nil (fun w103 hb hF=>?_);have N104:=qh (show DF w103 V.heap.size y7 q102 from(FS.made_of (val:=(fun x:FV=>x.v)) (Φ:=fun x w'=>DF w' V.heap.size x q102) (fun _ _=>FV.inj) (hF.all 7)));clear hF;have NT:=qh (NT.o.below hb);have HR:=qh (HR.o.below hb);have HSV:=qh (HSV.o.below hb);have B8:=qh (B8.o.bl hb);have KG:=qk KG hb;clear hb;have HAP:=qh (show ∀ e∈Ms' (t.m.at li),FV.apart e.1.c y7 from fun e he b hb1 hb2=>Nat.not_lt_of_le (N104.o.blks b hb2).1 (HMV.o _ _ HCD.o HBS.o e he b hb1));have AD:=qh (add_likesS b w.heap.size (Ms' (t.m.at li)) y7 q m w103 (HR.o.got _ b HCD.o HBS.o).1 (show DF w103 w.heap.size y7 q by have h:=N104.o.mono HSZ.o;rwa [show q102=q by rw[Hq102.o,Hq101.o];grind] at h) HAP.o HSM.o LQq.o (HR.o.lqs (canon_take HY.o.canon j) (fun u hu=>HP.o u (List.mem_of_mem_take hu)) HK.o HCD.o HBS.o) KG.o.size);go_wp2_with fail
     with_reducible refine AD.o.mono ?_
     rintro e w9 ⟨rfl,⟨L',hM',hv',hS'⟩,hOn⟩;have HR9:=qh (HR.o.add (m:=t.m) (q:=q) (i:=li) HCD.o HBS.o hOn hM' (by rw[hv',HMC.o]) fun e he=>(hS' e he).imp id fun h k c hk hc f hf b hb1 hb2=>h.elim (fun h=>by rw[h] at hb1;exact Nat.not_lt_of_le (N104.o.blks b hb1).1 (HMV.o k c hk hc f hf b hb2)) (fun h=>Nat.not_lt_of_le (zm HSV.o.le (h.blks b hb1).1) (HMV.o k c hk hc f hf b hb2)))
     have HL9:=qh (show L'.length<=j+1 by
      have h1:=congrArg List.length hv';have h2:=putT_len m q ((Ms' (t.m.at li)).map tm);rw[List.length_map] at h1 h2;have:=HMN.o (t.m.at li)
      omega)
     have HGB:=qh (show w.heap.size<=b from(HR.o.got _ b HCD.o HBS.o).1.ge);have KG:=qh (Only.bel KG.o hOn HGB.o KG.o.size);clear hM' hv' hS' hOn AD;go_wp2_with fail
     go_roundw
     case rel =>
      refine⟨j+1,bs',(fun k=>if k=t.m.at li then L' else Ms' k),by have:=HJN.o;omega,rfl,?_,fun k=>?_,KG.o⟩
      ·rw[List.take_add_one,HPJ.o];exact HR9.o
      ·show(if k=t.m.at li then L' else Ms' k).length<=j+1;by_cases e:k=t.m.at li
       ·rw[if_pos e];exact HL9.o
       ·rw[if_neg e];exact Nat.le_succ_of_le (HMN.o k)
     case measure=>simp[intOf];have:=HJN.o;omega
    ·have HBS:=qh (show bs (t.m.at li)=some b from HOB.o.symm);have hq:=eq_map b
     go_upto_region 11 with (fail)
     clear hrc hq c88;have HV:=qh (MR.setBxs HR.o B8.o (by decide) HGA.o (4+li) (.int .u16 0));have NT:=qh (KT.o V0 KG.o);have c88:=B8.o.cell (i:=4+li) (at_cell _ _ _ _ _ HI.o);have c8f:=B8.o.fz;have c8l:=B8.o.lt
     go_upto_region 12 with (fail)
     clear c8f c8l;obtain⟨m,hm⟩:∃ m,m=t.m.cut li:=⟨_,rfl⟩;obtain⟨V,hV⟩:∃ V,V=V0.setCell ⟨A8,4+li,none⟩ (.int .u16 0):=⟨_,rfl⟩;rw[<- hV];have HR:=qh (show MR V w.heap.size g d li (P.take j) bs Ms by rw[hV];exact HV.o);have KG:=qh (show Below w.heap.size w V by rw[hV];exact KG.o.setCell HLA.o _);have NT:=qh (show KF V t.c q from KT.o V KG.o);have B8:=qh (show Bxs V A8 37 [.bool t.c.t.s,.slice t.c.t.a t.c.t.n t.c.t.c,.bool t.c.l.s,.slice t.c.l.a t.c.l.n t.c.l.c,.int .u16 m.x,.int .u16 m.y,.int .u16 m.z,.int .u16 m.t] by rw[hV,hm];exact put_cut B8.o HI.o);have HLG:=qh (show g<V.heap.size from HR.o.row.lt)
     have CG:=qh (show ∀ w',Below V.heap.size V w'->w'.cell? ⟨g,t.m.at li,none⟩=some (.map (some b)) from fun w' hb=>by
      rw[(HR.o.row.of_block (hb.block g HLG.o)).cell HC3.o,HBS.o])
     have HSM:=qh (show m.Small by rw[hm];exact cut_small HS1.o li);have HMC:=qh hm;have HSZ:=qh (show w.heap.size<=V.heap.size from KG.o.size);have HMV:=qh (show ∀ k c,k<=d->bs k=some c->∀ e∈Ms k,∀ b,FV.blk e.1.c b->b<V.heap.size from fun k c hk hc e he b' hb'=>(((HR.o.got k c hk hc).1.df e he).blks b' hb').2);have HSV:=qh (show SzG V.heap.size V from⟨zj⟩);clear hV hm c88 HV;obtain⟨q101,hq101⟩:∃ z:Rat,z=((1:Int):Rat):=⟨_,rfl⟩;have Hq101:=qh hq101;have LQq101:=qh (show LQ q101 3 by rw[hq101];exact LQ.int (by decide) (by decide));clear hq101;obtain⟨q102,hq102⟩:∃ z:Rat,z=q*q101:=⟨_,rfl⟩;have Hq102:=qh hq102;have LQq102:=qh (show LQ q102 1800000 by rw[hq102];exact LQ.mul (LQq.o.up (by decide:_<=900000)) (LQq101.o.up (by decide:_<=900000)) (by decide));clear hq102
     go_upto_region 12 with (fail)
     refine FS.wp_region_fresh 10 [] (FS.spOf [(6,FS.Sp.made (fun x:FV=>x.v) (fun x w'=>DF w' V.heap.size x q101) FV.blk),(7,FS.Sp.made (fun x:FV=>x.v) (fun x w'=>DF w' V.heap.size x q102) FV.blk)])
      (fun w'=>Below V.heap.size V w') (by kernel_rfl) (by kernel_rfl) (by kernel_rfl)
      (FS.spOf_cons (FS.Sp.made_keeps _ (fun _ _ _ h _ hk=>h.kept hk) (FS.notTaken (by kernel_rfl))) (FS.spOf_cons (FS.Sp.made_keeps _ (fun _ _ _ h _ hk=>h.kept hk) (FS.notTaken (by kernel_rfl))) (FS.spOf_nil))) (fun _ _ h hb=>h.trans (hb.mono h.size)) (zk.drew) ?_
     simp only[zu,zi,ze,zx,zy,zv,zw]
     iterate 6
      refine FS.wpF_reads rfl rfl rfl ?_ (fun w' hw'=>?_) ?_;rotate_left
      ·have hb':=hw'.world;have hc:=HC.o;have hc2:=HC2.o;have hs:=CG.o w' hb';have hs0:=(B8.o.bl hb').ce 0;have hs1:=(B8.o.bl hb').ce 1;have hs2:=(B8.o.bl hb').ce 2;have hs3:=(B8.o.bl hb').ce 3;have hs4:=(B8.o.bl hb').ce 4;have hs5:=(B8.o.bl hb').ce 5;have hs6:=(B8.o.bl hb').ce 6;have hs7:=(B8.o.bl hb').ce 7;have hsf:=(B8.o.bl hb').fz;have hsl:=(B8.o.bl hb').lt;clear hw';go_simp
       try rfl
      conv=>arg 10;simp only[Act.put,zq0,zq1,zq2]
     refine FS.wpF_spec rfl rfl rfl (fun w' hw'=>?_) ?_
     ·have hb':=hw'.world;refine FS.gives_of (FS.PM (fun x:FV=>x.v) (fun x w'=>DF w' V.heap.size x q101) FV.blk w'.heap.size) ?_ (fun _ _ h=>h.post (fun _ _=>FV.inj));go_simp;have CT:=qof 1 w' (by decide) (by decide);rw[show((1:Int):Rat)=q101 from Hq101.o.symm] at CT;refine CT.mono ?_;rintro e w'' ⟨za,rfl,ho,hb⟩;exact⟨_,rfl,⟨za,rfl,ho.mono hb'.size,ho.blks⟩,hb⟩
     rintro _ ⟨y6,rfl⟩
     conv=>arg 10;simp only[Act.put,zq0,zq1,zq2]
     refine FS.wpF_spec rfl rfl rfl (fun w' hw'=>?_) ?_
     ·have hb':=hw'.world;refine FS.gives_of (FS.PM (fun x:FV=>x.v) (fun x w'=>DF w' V.heap.size x q102) FV.blk w'.heap.size) ?_ (fun _ _ h=>h.post (fun _ _=>FV.inj));go_simp;have f6:=FS.made_of (val:=(fun x:FV=>x.v)) (Φ:=fun x w'=>DF w' V.heap.size x q101) (fun _ _=>FV.inj) (hw'.fact 6 (by kernel_rfl));have CT:=qmul ((NT.o.below hb')).any (((NT.o.below hb')).len LQq.o (by decide:_<=900000)) (f6).k.any (((f6).k).len LQq101.o (by decide:_<=900000));rw[show q*q101=q102 from Hq102.o.symm] at CT;refine CT.mono ?_;rintro e w'' ⟨za,rfl,ho,hb⟩;exact⟨_,rfl,⟨za,rfl,ho.mono hb'.size,ho.blks⟩,hb⟩
     rintro _ ⟨y7,rfl⟩
     conv=>arg 10;simp only[Act.put,zq0,zq1,zq2]
     iterate 2
      refine FS.wpF_reads rfl rfl rfl ?_ (fun w' hw'=>?_) ?_;rotate_left
      ·have hb':=hw'.world;have hs0:=(B8.o.bl hb').ce 0;have hs1:=(B8.o.bl hb').ce 1;have hs2:=(B8.o.bl hb').ce 2;have hs3:=(B8.o.bl hb').ce 3;have hs4:=(B8.o.bl hb').ce 4;have hs5:=(B8.o.bl hb').ce 5;have hs6:=(B8.o.bl hb').ce 6;have hs7:=(B8.o.bl hb').ce 7;have hsf:=(B8.o.bl hb').fz;have hsl:=(B8.o.bl hb').lt;clear hw';go_simp
       try rfl
      conv=>arg 10;simp only[Act.put,zq0,zq1,zq2]
     refine FS.wpF_nil (fun w103 hb hF=>?_);have N104:=qh (show DF w103 V.heap.size y7 q102 from(FS.made_of (val:=(fun x:FV=>x.v)) (Φ:=fun x w'=>DF w' V.heap.size x q102) (fun _ _=>FV.inj) (hF.all 7)));clear hF;have NT:=qh (NT.o.below hb);have HR:=qh (HR.o.below hb);have HSV:=qh (HSV.o.below hb);have B8:=qh (B8.o.bl hb);have KG:=qk KG hb;clear hb;have HAP:=qh (show ∀ e∈Ms (t.m.at li),FV.apart e.1.c y7 from fun e he b hb1 hb2=>Nat.not_lt_of_le (N104.o.blks b hb2).1 (HMV.o _ _ HCD.o HBS.o e he b hb1));have AD:=qh (add_likesS b w.heap.size (Ms (t.m.at li)) y7 q m w103 (HR.o.got _ b HCD.o HBS.o).1 (show DF w103 w.heap.size y7 q by have h:=N104.o.mono HSZ.o;rwa [show q102=q by rw[Hq102.o,Hq101.o];grind] at h) HAP.o HSM.o LQq.o (HR.o.lqs (canon_take HY.o.canon j) (fun u hu=>HP.o u (List.mem_of_mem_take hu)) HK.o HCD.o HBS.o) KG.o.size);go_wp2_with fail
     with_reducible refine AD.o.mono ?_
     rintro e w9 ⟨rfl,⟨L',hM',hv',hS'⟩,hOn⟩;have HR9:=qh (HR.o.add (m:=t.m) (q:=q) (i:=li) HCD.o HBS.o hOn hM' (by rw[hv',HMC.o]) fun e he=>(hS' e he).imp id fun h k c hk hc f hf b hb1 hb2=>h.elim (fun h=>by rw[h] at hb1;exact Nat.not_lt_of_le (N104.o.blks b hb1).1 (HMV.o k c hk hc f hf b hb2)) (fun h=>Nat.not_lt_of_le (zm HSV.o.le (h.blks b hb1).1) (HMV.o k c hk hc f hf b hb2)))
     have HL9:=qh (show L'.length<=j+1 by
      have h1:=congrArg List.length hv';have h2:=putT_len m q ((Ms (t.m.at li)).map tm);rw[List.length_map] at h1 h2;have:=HMN.o (t.m.at li)
      omega)
     have HGB:=qh (show w.heap.size<=b from(HR.o.got _ b HCD.o HBS.o).1.ge);have KG:=qh (Only.bel KG.o hOn HGB.o KG.o.size);clear hM' hv' hS' hOn AD;go_wp2_with fail
     go_roundw
     case rel =>
      refine⟨j+1,bs,(fun k=>if k=t.m.at li then L' else Ms k),by have:=HJN.o;omega,rfl,?_,fun k=>?_,KG.o⟩
      ·rw[List.take_add_one,HPJ.o];exact HR9.o
      ·show(if k=t.m.at li then L' else Ms k).length<=j+1;by_cases e:k=t.m.at li
       ·rw[if_pos e];exact HL9.o
       ·rw[if_neg e];exact Nat.le_succ_of_le (HMN.o k)
     case measure=>simp[intOf];have:=HJN.o;omega
   ·have HJE:=qh (show j=yn by have:=HJ.o;omega)
    have hge:¬((j:Int)<(yn:Int)):=by omega
    have HR:=qh (show MR wr w.heap.size g d li P bs Ms by have h:=HR.o;rwa [List.take_of_length_le (by rw[HJE.o,HYL.o];exact zj)] at h);have HLQ:=qh (show ∀ k b,k<=d->bs k=some b->∀ e∈Ms k,LQ e.2 900000 from fun k b hk hb=>HR.o.lqs HY.o.canon HP.o HK.o hk hb);obtain⟨i1,hi,hz0,hz1,hz2⟩:=info_parts infoP;clear hjn;go_wp2_with fail
    go_loopw [10,58] (fun p i wx=>∃ (l:Nat) (Zs:List PV) (Ds:Nat->List TE),l<=d+1/\i=.int .i64 l/\CoefL w P g d li l p bs Ms Zs Ds wx) (fun _ i _=>d+1-(intOf i).toNat)
    case atStart=>exact⟨0,[],(fun _=>[]),Nat.zero_le _,rfl,⟨World.ownsRow_nil _ _ _ _,rfl,fun k z h=>(by simp at h),fun k hk=>absurd hk (Nat.not_lt_zero k),fun k l z y _ h=>(by simp at h),HR.o,KG.o⟩⟩
    case round =>
     obtain⟨l,Zs,Ds,hl,rfl,hcl⟩:=hrel;have HL:=qh hl;have HCL:=qh hcl;clear hl hcl;by_cases hln:l<d+1
     ·have HLN:=qh hln;have HLD:=qh (show l<=d by omega);have hrc:=HCL.o.mr.row.cell hln
      have h1:(l:Int)<((d+1:Nat):Int):=by omega
      have h2:(l:Int)<(d:Int)+1:=by omega
      have el:IntKind.i64.wrap ((l:Int)+1)=(l:Int)+1:=IntWalk.i64_in _ (by have:=HD6.o;omega);obtain⟨ob,hob⟩:∃ o,o=bs l:=⟨_,rfl⟩;rw[<- hob] at hrc;have HOB:=qh hob;clear hob hln;have HOLD:=qh (show ∀ (k:Nat) (y:PV),Zs[k]?=some y->∀ p:Addr,y.a=some p->p.block<wr.heap.size from HCL.o.old)
      rcases ob with _ | b
      ·have SM:=qh (sum_nil wr);go_wp2_with fail
       with_reducible refine SM.o.mono ?_
       rintro e w4 ⟨rfl,hb⟩;have HCL:=qh (HCL.o.below hb);have HZ:=qh (show CZ w4 w.heap.size ⟨none,0,0⟩ (coefP P li l) [] by rw[HCL.o.mr.nil l HLD.o HOB.o.symm];exact CZ.nil _ _);clear hb SM hrc;go_wp2_with (first | (at_builtin;refine wpList_append_own _ rfl _ _ 40 rfl w.heap.size 23 i1 _ 1 24 Tryz.underlying40 hi hz0 hz1 hz2 rfl (by decide) _ _ _ rfl (HCL.o.row.alloc _) ⟨w4.heap.size,0,none⟩ 1 1 [.slice none 0 0] rfl rfl ?c1 ?c2 ?c3 ?c4 ?c5 ?_))
       case c1 =>
        intro j u hj
        match j,hj with
        | 0,hj=>simp at hj;subst hj;simp[Addr.add]
       case c2 =>
        intro u hu;rw[List.mem_singleton.1 hu];rfl
       case c3=>rw[HCL.o.len];have:=HLD.o;have:=HD6.o;unfold maxLen;omega
       case c4=>rw[HCL.o.len];have:=HLD.o;have:=HD6.o;omega
       case c5=>have:=HCL.o.bel.size;simp;omega
       intro v' w5 hown hgrow _
       have HC5:=qh (HCL.o.push HZ.o (fun e he=>(by cases he)) HOLD.o (fun p hp=>(by cases hp)) (show OC w5 w.heap.size v' (Zs++[⟨none,0,0⟩]) by
        show w5.ownsRow _ _ _ _ _ _;rw[List.length_append,List.map_append]
        exact hown) hgrow)
       clear hown hgrow;go_wp2_with fail
       go_roundw
       case rel=>exact⟨l+1,Zs++[⟨none,0,0⟩],_,by have:=HLN.o;omega,rfl,HC5.o⟩
       case measure=>simp[intOf];have:=HLN.o;omega
      ·have SM:=qh (sum_likesS b w.heap.size (Ms l) wr (HCL.o.mr.got l b HLD.o HOB.o.symm).1 (HLQ.o l b HLD.o HOB.o.symm) HCL.o.bel.size (by have h1:=HMN.o l;have h2:=HJ.o;have h3:=HYN.o;omega));go_wp2_with fail
       with_reducible refine SM.o.mono ?_
       rintro e w4 ⟨⟨za,zn,zc⟩,D,he,hz,hb⟩;obtain rfl:e=.returned (.slice za zn zc):=he;have HZD:=qh hz
       have HZ:=qh (show CZ w4 w.heap.size ⟨za,zn,zc⟩ (coefP P li l) D by
        rw[show coefP P li l=nf ((Ms l).map tm) from(nf_id (coefP_canon HY.o.canon li l)).symm.trans (nf_of_ev fun f=>((HCL.o.mr.got l b HLD.o HOB.o.symm).2 f).symm)]
        exact hz.cz (HCL.o.mr.got l b HLD.o HOB.o.symm).1 hb HCL.o.bel.size)
       have HCL:=qh (HCL.o.below hb);clear hz hb SM hrc;go_wp2_with (first | (at_builtin;refine wpList_append_own _ rfl _ _ 40 rfl w.heap.size 23 i1 _ 1 24 Tryz.underlying40 hi hz0 hz1 hz2 rfl (by decide) _ _ _ rfl (HCL.o.row.alloc _) ⟨w4.heap.size,0,none⟩ 1 1 [.slice za zn zc] rfl rfl ?c1 ?c2 ?c3 ?c4 ?c5 ?_))
       case c1 =>
        intro j u hj
        match j,hj with
        | 0,hj=>simp at hj;subst hj;simp[Addr.add]
       case c2 =>
        intro u hu;rw[List.mem_singleton.1 hu];rfl
       case c3=>rw[HCL.o.len];have:=HLD.o;have:=HD6.o;unfold maxLen;omega
       case c4=>rw[HCL.o.len];have:=HLD.o;have:=HD6.o;omega
       case c5=>have:=HCL.o.bel.size;simp;omega
       intro v' w5 hown hgrow _
       have HC5:=qh (HCL.o.push HZ.o (fun e he=>⟨b,HOB.o.symm,HZD.o.mem e he⟩) HOLD.o (fun p hp=>(OT.blk (x:=⟨za,zn,zc⟩) HZD.o.row hp).1) (show OC w5 w.heap.size v' (Zs++[⟨za,zn,zc⟩]) by
        show w5.ownsRow _ _ _ _ _ _;rw[List.length_append,List.map_append]
        exact hown) hgrow)
       clear hown hgrow;go_wp2_with fail
       go_roundw
       case rel=>exact⟨l+1,Zs++[⟨za,zn,zc⟩],_,by have:=HLN.o;omega,rfl,HC5.o⟩
       case measure=>simp[intOf];have:=HLN.o;omega
     ·have hge:¬((l:Int)<((d+1:Nat):Int)):=by omega
      have hge2:¬((l:Int)<(d:Int)+1):=by omega
      have HLE:=qh (show l=d+1 by have:=HL.o;omega);clear hln;go_wp2_with fail
      go_ret;refine⟨_,Zs,Ds,rfl,HCL.o.row,?_,HCL.o.cz,fun k j z y hkj hz hy=>⟨HCL.o.ne k j z y hkj hz hy,fun e he f hf=>?_⟩,HCL.o.bel⟩
      ·rw[HCL.o.len,HLE.o,<- HD.o];rfl
      ·have h1:=(List.getElem?_eq_some_iff.1 hy).1;rw[HCL.o.len,HLE.o] at h1;obtain⟨c1,g1,g2⟩:=HCL.o.dm k (by rw[HLE.o];omega) e he;obtain⟨c2,g3,g4⟩:=HCL.o.dm j (by rw[HLE.o];omega) f hf;exact HCL.o.mr.apk k j c1 c2 (by omega) (by omega) (Nat.ne_of_lt hkj) g1 g3 e g2 f g4
end Pol
end Go.Proofs.YthacfgmdihcffaaGreatDoor
