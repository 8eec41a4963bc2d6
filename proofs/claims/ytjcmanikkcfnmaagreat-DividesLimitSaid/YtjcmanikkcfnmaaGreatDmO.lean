/-
  The walks of ContainsFunc over the sums to divide by, and of divisors.
-/
import Derived.Test.YtjcmanikkcfnmaaGreatDmN
set_option linter.unusedSimpArgs false
set_option linter.unusedVariables false
set_option maxHeartbeats 16000000
set_option maxRecDepth 100000
namespace Go.Proofs.YtjcmanikkcfnmaaGreat.Pol
open Go.RowKit Go.Sort Go.Proofs.YtjcmanikkcfnmaaGreat.Limb
theorem rcheck_raw (x:PV) (L:List TO) (k0:Nat) (w:World) (h:RawP w x L) (hn:x.n≤1000000000) (hk:k0≤L.length) (hok:∀ i,i<k0→Ok1 L i) (hbad:k0<L.length→¬Ok1 L k0) :
  Calls Tryz.prog 18 #[x.v] w fun e w'=>e=.returned (.bool (decide (k0=L.length)))∧Below w.heap.size w w':=by
 obtain⟨xa,xn,xc⟩:=x;have HLN:=qh (show L.length=xn from h.2.1);have HN:=qh (show xn≤1000000000 from hn);have HR:=qh h;have HK0:=qh hk;have HOK:=qh hok;have HBAD:=qh hbad;have KG:=qh (Below.refl w.heap.size w);obtain⟨bv,hbv⟩:∃ b,b=decide (k0=L.length):=⟨_,rfl⟩;have HBV:=qh hbv;rw[← hbv];clear h hk hok hbad hn hbv;change Calls Tryz.prog 18 #[.slice xa xn xc] w _;go_enter Tryz.func18,Tryz.ntmps18;go_wp2_with fail
 go_loopw [3] (fun i wr=>∃ k:Nat,k≤k0∧i=.int .i64 k∧Below w.heap.size w wr) (fun i _=>xn-(intOf i).toNat)
 case atStart=>exact⟨0,Nat.zero_le _,rfl,KG.out⟩
 case round =>
  obtain⟨k,hkk,rfl,hb0⟩:=hrel;have KG:=qh hb0;have HKK0:=qh hkk;clear hb0 hkk
  by_cases hkl:k<xn
  ·have HKL:=qh hkl
   have hkl2:(k:Int)<(xn:Int):=by omega
   obtain⟨pb,po,rfl,hre⟩:=(HR.out.below KG.out).1.one (fun h=>by have h1:=HLN.out;rw[List.map_eq_nil_iff] at h;rw[h] at h1;simp at h1;omega);obtain⟨e,he⟩:∃ e,L[k]?=some e:=⟨_,List.getElem?_eq_getElem (by rw[HLN.out];exact hkl)⟩;obtain⟨t,o⟩:=e;have E1:=qh (hre k t (by rw[List.getElem?_map,he];rfl));have HRE:=qh hre;have HE:=qh he;have HTO:=qh ((HR.out.below KG.out).2.2.2.1 _ (List.mem_of_getElem? he));have HLF:=qh (show LF t.c 900000 from HR.out.2.2.2.2.2 _ (List.mem_of_getElem? he));have HS1:=qh (show t.m.Small from HR.out.2.2.2.2.1 _ (List.mem_of_getElem? he));clear hre he hkl
   cases o with
   | none =>
    have NF:=qh (show BF wr t.c from HTO.out)
    have HEND:=qh (show false=bv by
     rw[HBV.out];refine(decide_eq_false fun hh=>?_).symm;obtain⟨e',q',h1,h2,-⟩:=HOK.out k (by rw[hh,HLN.out];exact HKL.out);rw[HE.out] at h1
     cases h1
     cases h2)
    clear HTO
    go_upto_region 4 with (fail)
    refine FS.wp_region_fresh 34 [] (FS.spOf [(5,FS.Sp.know (.bool false))])
     (fun w'=>Below wr.heap.size wr w') (by kernel_rfl) (by kernel_rfl) (by kernel_rfl)
     (FS.spOf_cons (FS.Sp.know_keeps _ _) (FS.spOf_nil)) (fun _ _ h hb=>h.trans (hb.mono h.size)) ((Below.refl _ _).drew) ?_
    simp only[List.append_eq,List.cons_append,List.nil_append,List.take_succ_cons,List.take_zero,List.drop_succ_cons,List.drop_zero]
    iterate 5
     refine FS.wpF_reads rfl rfl rfl ?_ (fun w' hw'=>?_) ?_;rotate_left
     ·have hb':=hw'.world;have hn:=HKL.out;obtain⟨hs0,hs1,hs2,hs3,hs4,hs5,hs6,hs7⟩:=(E1.out.below hb').eight;clear hw';go_simp
      try rfl
     conv=>arg 10;simp only[Act.put,zq0,zq1,zq2]
    refine FS.wpF_spec rfl rfl rfl (fun w' hw'=>?_) ?_
    ·have hb':=hw'.world;refine FS.gives_of (FS.PK (.bool false)) ?_ (fun _ _ h=>h.post);go_simp;have CT:=(show Calls Tryz.prog 44 #[.agg #[.bool t.c.t.s,.slice t.c.t.a t.c.t.n t.c.t.c,.bool t.c.l.s,.slice t.c.l.a t.c.l.n t.c.l.c]] w' _ from rcheckVB (x:=t.c) (NF.out.below hb') HLF.out);refine CT.mono ?_;rintro e w'' ⟨rfl,hb⟩;exact⟨_,rfl,rfl,hb⟩
    rintro _ rfl
    conv=>arg 10;simp only[Act.put,zq0,zq1,zq2]
    iterate 2
     refine FS.wpF_reads rfl rfl rfl ?_ (fun w' hw'=>?_) ?_;rotate_left
     ·have hb':=hw'.world;skip;clear hw';go_simp
      try rfl
     conv=>arg 10;simp only[Act.put,zq0,zq1,zq2]
    iterate 7
     refine FS.wpF_skip (by rfl) rfl ?_
     conv=>arg 10;simp only[Act.put,zq0,zq1,zq2]
    iterate 2
     refine FS.wpF_reads rfl rfl rfl ?_ (fun w' hw'=>?_) ?_;rotate_left
     ·have hb':=hw'.world;skip;clear hw';go_simp
      try rfl
     conv=>arg 10;simp only[Act.put,zq0,zq1,zq2]
    iterate 17
     refine FS.wpF_skip (by rfl) rfl ?_
     conv=>arg 10;simp only[Act.put,zq0,zq1,zq2]
    refine FS.wpF_nil (fun w101 hb hF=>?_);clear hF;have KG:=qk KG hb;clear hb;go_wp2_with fail
    go_ret
    exact⟨by rw[HEND.out] <;> rfl,KG.out⟩
   | some q =>
    have NF:=qh (show KF wr t.c q from HTO.out)
    by_cases hq:q=0
    ·have HSG:=qh (q_num.2 hq)
     have HEND:=qh (show false=bv by
      rw[HBV.out];refine(decide_eq_false fun hh=>?_).symm;obtain⟨e',q',h1,h2,h3,-⟩:=HOK.out k (by rw[hh,HLN.out];exact HKL.out);rw[HE.out] at h1
      cases h1
      cases h2
      exact h3 hq)
     clear HTO hq
     go_upto_region 4 with (fail)
     refine FS.wp_region_fresh 34 [] (FS.spOf [(5,FS.Sp.know (.bool true)),(13,FS.Sp.know (.int .i64 0))])
      (fun w'=>Below wr.heap.size wr w') (by kernel_rfl) (by kernel_rfl) (by kernel_rfl)
      (FS.spOf_cons (FS.Sp.know_keeps _ _) (FS.spOf_cons (FS.Sp.know_keeps _ _) (FS.spOf_nil))) (fun _ _ h hb=>h.trans (hb.mono h.size)) ((Below.refl _ _).drew) ?_
     simp only[List.append_eq,List.cons_append,List.nil_append,List.take_succ_cons,List.take_zero,List.drop_succ_cons,List.drop_zero]
     iterate 5
      refine FS.wpF_reads rfl rfl rfl ?_ (fun w' hw'=>?_) ?_;rotate_left
      ·have hb':=hw'.world;have hn:=HKL.out;obtain⟨hs0,hs1,hs2,hs3,hs4,hs5,hs6,hs7⟩:=(E1.out.below hb').eight;clear hw';go_simp
       try rfl
      conv=>arg 10;simp only[Act.put,zq0,zq1,zq2]
     refine FS.wpF_spec rfl rfl rfl (fun w' hw'=>?_) ?_
     ·have hb':=hw'.world;refine FS.gives_of (FS.PK (.bool true)) ?_ (fun _ _ h=>h.post);go_simp;have CT:=(show Calls Tryz.prog 44 #[.agg #[.bool t.c.t.s,.slice t.c.t.a t.c.t.n t.c.t.c,.bool t.c.l.s,.slice t.c.l.a t.c.l.n t.c.l.c]] w' _ from rcheckV (x:=t.c) (NF.out.below hb') HLF.out);refine CT.mono ?_;rintro e w'' ⟨rfl,hb⟩;exact⟨_,rfl,rfl,hb⟩
     rintro _ rfl
     conv=>arg 10;simp only[Act.put,zq0,zq1,zq2]
     iterate 2
      refine FS.wpF_reads rfl rfl rfl ?_ (fun w' hw'=>?_) ?_;rotate_left
      ·have hb':=hw'.world;skip;clear hw';go_simp
       try rfl
      conv=>arg 10;simp only[Act.put,zq0,zq1,zq2]
     iterate 5
      refine FS.wpF_readsG (by rfl) rfl rfl ?_ (fun w' hw'=>?_) ?_;rotate_left
      ·have hb':=hw'.world;have hn:=HKL.out;obtain⟨hs0,hs1,hs2,hs3,hs4,hs5,hs6,hs7⟩:=(E1.out.below hb').eight;clear hw';go_simp
       try rfl
      conv=>arg 10;simp only[Act.put,zq0,zq1,zq2]
     refine FS.wpF_gspec (by rfl) rfl rfl (fun w' hw'=>?_) ?_
     ·have hb':=hw'.world;refine FS.gives_of (FS.PK (.int .i64 0)) ?_ (fun _ _ h=>h.post);go_simp;have CT:=(show Calls Tryz.prog 45 #[.agg #[.bool t.c.t.s,.slice t.c.t.a t.c.t.n t.c.t.c,.bool t.c.l.s,.slice t.c.l.a t.c.l.n t.c.l.c]] w' _ from rsignV (x:=t.c) (NF.out.below hb').any HLF.out);rw[show cmpZ q.num 0=0 from HSG.out] at CT;refine CT.mono ?_;rintro e w'' ⟨rfl,hb⟩;exact⟨_,rfl,rfl,hb⟩
     rintro _ rfl
     conv=>arg 10;simp only[Act.put,zq0,zq1,zq2]
     refine FS.wpF_readsG (by rfl) rfl rfl ?_ (fun w' hw'=>?_) ?_;rotate_left
     ·have hb':=hw'.world;skip;clear hw';go_simp
      try rfl
     conv=>arg 10;simp only[Act.put,zq0,zq1,zq2]
     iterate 2
      refine FS.wpF_reads rfl rfl rfl ?_ (fun w' hw'=>?_) ?_;rotate_left
      ·have hb':=hw'.world;skip;clear hw';go_simp
       try rfl
      conv=>arg 10;simp only[Act.put,zq0,zq1,zq2]
     iterate 17
      refine FS.wpF_skip (by rfl) rfl ?_
      conv=>arg 10;simp only[Act.put,zq0,zq1,zq2]
     refine FS.wpF_nil (fun w102 hb hF=>?_);clear hF;have KG:=qk KG hb;clear hb;go_wp2_with fail
     go_ret;exact⟨by rw[HEND.out] <;> rfl,KG.out⟩
    ·obtain⟨sg,hsg⟩:∃ c,c=cmpZ q.num 0:=⟨_,rfl⟩;have HSG:=qh hsg.symm
     have gsg:(sg==0)=false:=by
      rw[hsg]
      simpa using fun h=>hq (q_num.1 h)
     have HQ:=qh hq;clear hsg hq HTO
     rcases Nat.eq_zero_or_pos k with h0 | h0
     ·have HKK:=qh (show k<k0 from Nat.lt_of_le_of_ne HKK0.out fun hh=>HBAD.out (by rw[← hh,HLN.out];exact HKL.out) (by rw[← hh];exact⟨_,q,HE.out,rfl,HQ.out,fun h=>by omega⟩))
      have gk2:¬(0<(k:Int)):=by omega
      have gk3:¬(0<k):=by omega
      clear h0
      go_upto_region 4 with (fail)
      refine FS.wp_region_fresh 34 [] (FS.spOf [(5,FS.Sp.know (.bool true)),(13,FS.Sp.know (.int .i64 sg))])
       (fun w'=>Below wr.heap.size wr w') (by kernel_rfl) (by kernel_rfl) (by kernel_rfl)
       (FS.spOf_cons (FS.Sp.know_keeps _ _) (FS.spOf_cons (FS.Sp.know_keeps _ _) (FS.spOf_nil))) (fun _ _ h hb=>h.trans (hb.mono h.size)) ((Below.refl _ _).drew) ?_
      simp only[List.append_eq,List.cons_append,List.nil_append,List.take_succ_cons,List.take_zero,List.drop_succ_cons,List.drop_zero]
      iterate 5
       refine FS.wpF_reads rfl rfl rfl ?_ (fun w' hw'=>?_) ?_;rotate_left
       ·have hb':=hw'.world;have hn:=HKL.out;obtain⟨hs0,hs1,hs2,hs3,hs4,hs5,hs6,hs7⟩:=(E1.out.below hb').eight;clear hw';go_simp
        try rfl
       conv=>arg 10;simp only[Act.put,zq0,zq1,zq2]
      refine FS.wpF_spec rfl rfl rfl (fun w' hw'=>?_) ?_
      ·have hb':=hw'.world;refine FS.gives_of (FS.PK (.bool true)) ?_ (fun _ _ h=>h.post);go_simp;have CT:=(show Calls Tryz.prog 44 #[.agg #[.bool t.c.t.s,.slice t.c.t.a t.c.t.n t.c.t.c,.bool t.c.l.s,.slice t.c.l.a t.c.l.n t.c.l.c]] w' _ from rcheckV (x:=t.c) (NF.out.below hb') HLF.out);refine CT.mono ?_;rintro e w'' ⟨rfl,hb⟩;exact⟨_,rfl,rfl,hb⟩
      rintro _ rfl
      conv=>arg 10;simp only[Act.put,zq0,zq1,zq2]
      iterate 2
       refine FS.wpF_reads rfl rfl rfl ?_ (fun w' hw'=>?_) ?_;rotate_left
       ·have hb':=hw'.world;skip;clear hw';go_simp
        try rfl
       conv=>arg 10;simp only[Act.put,zq0,zq1,zq2]
      iterate 5
       refine FS.wpF_readsG (by rfl) rfl rfl ?_ (fun w' hw'=>?_) ?_;rotate_left
       ·have hb':=hw'.world;have hn:=HKL.out;obtain⟨hs0,hs1,hs2,hs3,hs4,hs5,hs6,hs7⟩:=(E1.out.below hb').eight;clear hw';go_simp
        try rfl
       conv=>arg 10;simp only[Act.put,zq0,zq1,zq2]
      refine FS.wpF_gspec (by rfl) rfl rfl (fun w' hw'=>?_) ?_
      ·have hb':=hw'.world;refine FS.gives_of (FS.PK (.int .i64 sg)) ?_ (fun _ _ h=>h.post);go_simp;have CT:=(show Calls Tryz.prog 45 #[.agg #[.bool t.c.t.s,.slice t.c.t.a t.c.t.n t.c.t.c,.bool t.c.l.s,.slice t.c.l.a t.c.l.n t.c.l.c]] w' _ from rsignV (x:=t.c) (NF.out.below hb').any HLF.out);rw[show cmpZ q.num 0=sg from HSG.out] at CT;refine CT.mono ?_;rintro e w'' ⟨rfl,hb⟩;exact⟨_,rfl,rfl,hb⟩
      rintro _ rfl
      conv=>arg 10;simp only[Act.put,zq0,zq1,zq2]
      refine FS.wpF_readsG (by rfl) rfl rfl ?_ (fun w' hw'=>?_) ?_;rotate_left
      ·have hb':=hw'.world;skip;clear hw';go_simp
       try rfl
      conv=>arg 10;simp only[Act.put,zq0,zq1,zq2]
      iterate 2
       refine FS.wpF_reads rfl rfl rfl ?_ (fun w' hw'=>?_) ?_;rotate_left
       ·have hb':=hw'.world;skip;clear hw';go_simp
        try rfl
       conv=>arg 10;simp only[Act.put,zq0,zq1,zq2]
      iterate 3
       refine FS.wpF_readsG (by rfl) rfl rfl ?_ (fun w' hw'=>?_) ?_;rotate_left
       ·have hb':=hw'.world;skip;clear hw';go_simp
        try rfl
       conv=>arg 10;simp only[Act.put,zq0,zq1,zq2]
      iterate 13
       refine FS.wpF_skip (by rfl) rfl ?_
       conv=>arg 10;simp only[Act.put,zq0,zq1,zq2]
      refine FS.wpF_readsG (by rfl) rfl rfl ?_ (fun w' hw'=>?_) ?_;rotate_left
      ·have hb':=hw'.world;skip;clear hw';go_simp
       try rfl
      conv=>arg 10;simp only[Act.put,zq0,zq1,zq2]
      refine FS.wpF_nil (fun w103 hb hF=>?_);clear hF;have KG:=qk KG hb;clear hb;have ek1:IntKind.i64.wrap ((k:Int)+1)=(k:Int)+1:=IntWalk.i64_in _ (by have:=HKL.out;have:=HN.out;omega);go_wp2_with fail
      go_roundw
      case rel=>exact⟨k+1,by have:=HKK.out;omega,rfl,KG.out⟩
      case measure=>simp[intOf];have:=HKL.out;omega
     ·obtain⟨j,hj⟩:∃ j,k=j+1:=⟨k-1,by omega⟩
      have gk2:0<(k:Int):=by omega
      have gk3:0<k:=by omega
      have EJW:=qh (show IntKind.i64.wrap ((k:Int)-1)=(j:Int) by have:=HKL.out;have:=HN.out;rw[IntWalk.i64_in _ (by omega)];omega);have HJN:=qh (show j<xn by have:=HKL.out;omega);have HJK:=qh hj;obtain⟨d,hd⟩:∃ d,L[j]?=some d:=⟨_,List.getElem?_eq_getElem (by rw[HLN.out];exact HJN.out)⟩;obtain⟨tj,oj⟩:=d;have HD:=qh hd;have EJ:=qh (HRE.out j tj (by rw[List.getElem?_map,hd];rfl));have HS2:=qh (show tj.m.Small from HR.out.2.2.2.2.1 _ (List.mem_of_getElem? hd));obtain⟨fv,hfv⟩:∃ c,c=Mono.cmpZ (keyO 0 tj.m) (keyO 0 t.m):=⟨_,rfl⟩;have HFV:=qh hfv.symm;clear hd h0 hj
      by_cases hlt:t.m.lt tj.m
      ·have gf2:¬(fv≤0):=by rw[hfv];exact Int.not_le.2 (cmpZ_dec.2 ((lt_key0 HS1.out HS2.out).1 hlt))
       have HKK:=qh (show k<k0 from Nat.lt_of_le_of_ne HKK0.out fun hh=>HBAD.out (by rw[← hh,HLN.out];exact HKL.out) (by rw[← hh];exact⟨_,q,HE.out,rfl,HQ.out,fun _=>⟨_,by rw[HJK.out];exact HD.out,hlt⟩⟩));clear hfv hlt
       go_upto_region 4 with (fail)
       refine FS.wp_region_fresh 34 [] (FS.spOf [(5,FS.Sp.know (.bool true)),(13,FS.Sp.know (.int .i64 sg)),(31,FS.Sp.know (.int .i64 fv))])
        (fun w'=>Below wr.heap.size wr w') (by kernel_rfl) (by kernel_rfl) (by kernel_rfl)
        (FS.spOf_cons (FS.Sp.know_keeps _ _) (FS.spOf_cons (FS.Sp.know_keeps _ _) (FS.spOf_cons (FS.Sp.know_keeps _ _) (FS.spOf_nil)))) (fun _ _ h hb=>h.trans (hb.mono h.size)) ((Below.refl _ _).drew) ?_
       simp only[List.append_eq,List.cons_append,List.nil_append,List.take_succ_cons,List.take_zero,List.drop_succ_cons,List.drop_zero]
       iterate 5
        refine FS.wpF_reads rfl rfl rfl ?_ (fun w' hw'=>?_) ?_;rotate_left
        ·have hb':=hw'.world;have hn:=HKL.out;obtain⟨hs0,hs1,hs2,hs3,hs4,hs5,hs6,hs7⟩:=(E1.out.below hb').eight;clear hw';go_simp
         try rfl
        conv=>arg 10;simp only[Act.put,zq0,zq1,zq2]
       refine FS.wpF_spec rfl rfl rfl (fun w' hw'=>?_) ?_
       ·have hb':=hw'.world;refine FS.gives_of (FS.PK (.bool true)) ?_ (fun _ _ h=>h.post);go_simp;have CT:=(show Calls Tryz.prog 44 #[.agg #[.bool t.c.t.s,.slice t.c.t.a t.c.t.n t.c.t.c,.bool t.c.l.s,.slice t.c.l.a t.c.l.n t.c.l.c]] w' _ from rcheckV (x:=t.c) (NF.out.below hb') HLF.out);refine CT.mono ?_;rintro e w'' ⟨rfl,hb⟩;exact⟨_,rfl,rfl,hb⟩
       rintro _ rfl
       conv=>arg 10;simp only[Act.put,zq0,zq1,zq2]
       iterate 2
        refine FS.wpF_reads rfl rfl rfl ?_ (fun w' hw'=>?_) ?_;rotate_left
        ·have hb':=hw'.world;skip;clear hw';go_simp
         try rfl
        conv=>arg 10;simp only[Act.put,zq0,zq1,zq2]
       iterate 5
        refine FS.wpF_readsG (by rfl) rfl rfl ?_ (fun w' hw'=>?_) ?_;rotate_left
        ·have hb':=hw'.world;have hn:=HKL.out;obtain⟨hs0,hs1,hs2,hs3,hs4,hs5,hs6,hs7⟩:=(E1.out.below hb').eight;clear hw';go_simp
         try rfl
        conv=>arg 10;simp only[Act.put,zq0,zq1,zq2]
       refine FS.wpF_gspec (by rfl) rfl rfl (fun w' hw'=>?_) ?_
       ·have hb':=hw'.world;refine FS.gives_of (FS.PK (.int .i64 sg)) ?_ (fun _ _ h=>h.post);go_simp;have CT:=(show Calls Tryz.prog 45 #[.agg #[.bool t.c.t.s,.slice t.c.t.a t.c.t.n t.c.t.c,.bool t.c.l.s,.slice t.c.l.a t.c.l.n t.c.l.c]] w' _ from rsignV (x:=t.c) (NF.out.below hb').any HLF.out);rw[show cmpZ q.num 0=sg from HSG.out] at CT;refine CT.mono ?_;rintro e w'' ⟨rfl,hb⟩;exact⟨_,rfl,rfl,hb⟩
       rintro _ rfl
       conv=>arg 10;simp only[Act.put,zq0,zq1,zq2]
       refine FS.wpF_readsG (by rfl) rfl rfl ?_ (fun w' hw'=>?_) ?_;rotate_left
       ·have hb':=hw'.world;skip;clear hw';go_simp
        try rfl
       conv=>arg 10;simp only[Act.put,zq0,zq1,zq2]
       iterate 2
        refine FS.wpF_reads rfl rfl rfl ?_ (fun w' hw'=>?_) ?_;rotate_left
        ·have hb':=hw'.world;skip;clear hw';go_simp
         try rfl
        conv=>arg 10;simp only[Act.put,zq0,zq1,zq2]
       iterate 14
        refine FS.wpF_readsG (by rfl) rfl rfl ?_ (fun w' hw'=>?_) ?_;rotate_left
        ·have hb':=hw'.world;have hj:=EJW.out;have hn:=HJN.out;obtain⟨hs0,hs1,hs2,hs3,hs4,hs5,hs6,hs7⟩:=(EJ.out.below hb').eight;have hn:=HKL.out;obtain⟨hs0,hs1,hs2,hs3,hs4,hs5,hs6,hs7⟩:=(E1.out.below hb').eight;clear hw';go_simp
         try rfl
        conv=>arg 10;simp only[Act.put,zq0,zq1,zq2]
       refine FS.wpF_gspec (by rfl) rfl rfl (fun w' hw'=>?_) ?_
       ·have hb':=hw'.world;refine FS.gives_of (FS.PK (.int .i64 fv)) ?_ (fun _ _ h=>h.post);go_simp;have CT:=(show Calls Tryz.prog 46 #[.int .u8 0,.agg #[.int .u16 tj.m.x,.int .u16 tj.m.y,.int .u16 tj.m.z,.int .u16 tj.m.t],.agg #[.int .u16 t.m.x,.int .u16 t.m.y,.int .u16 t.m.z,.int .u16 t.m.t]] w' _ from rcmpV 0 tj.m t.m w' HS2.out HS1.out);rw[show Mono.cmpZ (keyO 0 tj.m) (keyO 0 t.m)=fv from HFV.out] at CT;refine CT.mono ?_;rintro e w'' ⟨rfl,hb⟩;exact⟨_,rfl,rfl,hb⟩
       rintro _ rfl
       conv=>arg 10;simp only[Act.put,zq0,zq1,zq2]
       iterate 2
        refine FS.wpF_readsG (by rfl) rfl rfl ?_ (fun w' hw'=>?_) ?_;rotate_left
        ·have hb':=hw'.world;skip;clear hw';go_simp
         try rfl
        conv=>arg 10;simp only[Act.put,zq0,zq1,zq2]
       refine FS.wpF_nil (fun w104 hb hF=>?_);clear hF;have KG:=qk KG hb;clear hb;have ek1:IntKind.i64.wrap ((k:Int)+1)=(k:Int)+1:=IntWalk.i64_in _ (by have:=HKL.out;have:=HN.out;omega);go_wp2_with fail
       go_roundw
       case rel=>exact⟨k+1,by have:=HKK.out;omega,rfl,KG.out⟩
       case measure=>simp[intOf];have:=HKL.out;omega
      ·have gf2:fv≤0:=by rw[hfv];exact Int.not_lt.1 fun h=>hlt ((lt_key0 HS1.out HS2.out).2 (cmpZ_dec.1 h))
       have HEND:=qh (show false=bv by
        rw[HBV.out];refine(decide_eq_false fun hh=>?_).symm;obtain⟨e',q',h1,h2,h3,h4⟩:=HOK.out k (by rw[hh,HLN.out];exact HKL.out);obtain⟨d',h5,h6⟩:=h4 (by have:=HJK.out;omega);rw[HE.out] at h1
        cases h1
        rw[show k-1=j by have:=HJK.out;omega,HD.out] at h5
        cases h5
        exact hlt h6)
       clear hfv hlt
       go_upto_region 4 with (fail)
       refine FS.wp_region_fresh 34 [] (FS.spOf [(5,FS.Sp.know (.bool true)),(13,FS.Sp.know (.int .i64 sg)),(31,FS.Sp.know (.int .i64 fv))])
        (fun w'=>Below wr.heap.size wr w') (by kernel_rfl) (by kernel_rfl) (by kernel_rfl)
        (FS.spOf_cons (FS.Sp.know_keeps _ _) (FS.spOf_cons (FS.Sp.know_keeps _ _) (FS.spOf_cons (FS.Sp.know_keeps _ _) (FS.spOf_nil)))) (fun _ _ h hb=>h.trans (hb.mono h.size)) ((Below.refl _ _).drew) ?_
       simp only[List.append_eq,List.cons_append,List.nil_append,List.take_succ_cons,List.take_zero,List.drop_succ_cons,List.drop_zero]
       iterate 5
        refine FS.wpF_reads rfl rfl rfl ?_ (fun w' hw'=>?_) ?_;rotate_left
        ·have hb':=hw'.world;have hn:=HKL.out;obtain⟨hs0,hs1,hs2,hs3,hs4,hs5,hs6,hs7⟩:=(E1.out.below hb').eight;clear hw';go_simp
         try rfl
        conv=>arg 10;simp only[Act.put,zq0,zq1,zq2]
       refine FS.wpF_spec rfl rfl rfl (fun w' hw'=>?_) ?_
       ·have hb':=hw'.world;refine FS.gives_of (FS.PK (.bool true)) ?_ (fun _ _ h=>h.post);go_simp;have CT:=(show Calls Tryz.prog 44 #[.agg #[.bool t.c.t.s,.slice t.c.t.a t.c.t.n t.c.t.c,.bool t.c.l.s,.slice t.c.l.a t.c.l.n t.c.l.c]] w' _ from rcheckV (x:=t.c) (NF.out.below hb') HLF.out);refine CT.mono ?_;rintro e w'' ⟨rfl,hb⟩;exact⟨_,rfl,rfl,hb⟩
       rintro _ rfl
       conv=>arg 10;simp only[Act.put,zq0,zq1,zq2]
       iterate 2
        refine FS.wpF_reads rfl rfl rfl ?_ (fun w' hw'=>?_) ?_;rotate_left
        ·have hb':=hw'.world;skip;clear hw';go_simp
         try rfl
        conv=>arg 10;simp only[Act.put,zq0,zq1,zq2]
       iterate 5
        refine FS.wpF_readsG (by rfl) rfl rfl ?_ (fun w' hw'=>?_) ?_;rotate_left
        ·have hb':=hw'.world;have hn:=HKL.out;obtain⟨hs0,hs1,hs2,hs3,hs4,hs5,hs6,hs7⟩:=(E1.out.below hb').eight;clear hw';go_simp
         try rfl
        conv=>arg 10;simp only[Act.put,zq0,zq1,zq2]
       refine FS.wpF_gspec (by rfl) rfl rfl (fun w' hw'=>?_) ?_
       ·have hb':=hw'.world;refine FS.gives_of (FS.PK (.int .i64 sg)) ?_ (fun _ _ h=>h.post);go_simp;have CT:=(show Calls Tryz.prog 45 #[.agg #[.bool t.c.t.s,.slice t.c.t.a t.c.t.n t.c.t.c,.bool t.c.l.s,.slice t.c.l.a t.c.l.n t.c.l.c]] w' _ from rsignV (x:=t.c) (NF.out.below hb').any HLF.out);rw[show cmpZ q.num 0=sg from HSG.out] at CT;refine CT.mono ?_;rintro e w'' ⟨rfl,hb⟩;exact⟨_,rfl,rfl,hb⟩
       rintro _ rfl
       conv=>arg 10;simp only[Act.put,zq0,zq1,zq2]
       refine FS.wpF_readsG (by rfl) rfl rfl ?_ (fun w' hw'=>?_) ?_;rotate_left
       ·have hb':=hw'.world;skip;clear hw';go_simp
        try rfl
       conv=>arg 10;simp only[Act.put,zq0,zq1,zq2]
       iterate 2
        refine FS.wpF_reads rfl rfl rfl ?_ (fun w' hw'=>?_) ?_;rotate_left
        ·have hb':=hw'.world;skip;clear hw';go_simp
         try rfl
        conv=>arg 10;simp only[Act.put,zq0,zq1,zq2]
       iterate 14
        refine FS.wpF_readsG (by rfl) rfl rfl ?_ (fun w' hw'=>?_) ?_;rotate_left
        ·have hb':=hw'.world;have hj:=EJW.out;have hn:=HJN.out;obtain⟨hs0,hs1,hs2,hs3,hs4,hs5,hs6,hs7⟩:=(EJ.out.below hb').eight;have hn:=HKL.out;obtain⟨hs0,hs1,hs2,hs3,hs4,hs5,hs6,hs7⟩:=(E1.out.below hb').eight;clear hw';go_simp
         try rfl
        conv=>arg 10;simp only[Act.put,zq0,zq1,zq2]
       refine FS.wpF_gspec (by rfl) rfl rfl (fun w' hw'=>?_) ?_
       ·have hb':=hw'.world;refine FS.gives_of (FS.PK (.int .i64 fv)) ?_ (fun _ _ h=>h.post);go_simp;have CT:=(show Calls Tryz.prog 46 #[.int .u8 0,.agg #[.int .u16 tj.m.x,.int .u16 tj.m.y,.int .u16 tj.m.z,.int .u16 tj.m.t],.agg #[.int .u16 t.m.x,.int .u16 t.m.y,.int .u16 t.m.z,.int .u16 t.m.t]] w' _ from rcmpV 0 tj.m t.m w' HS2.out HS1.out);rw[show Mono.cmpZ (keyO 0 tj.m) (keyO 0 t.m)=fv from HFV.out] at CT;refine CT.mono ?_;rintro e w'' ⟨rfl,hb⟩;exact⟨_,rfl,rfl,hb⟩
       rintro _ rfl
       conv=>arg 10;simp only[Act.put,zq0,zq1,zq2]
       iterate 2
        refine FS.wpF_readsG (by rfl) rfl rfl ?_ (fun w' hw'=>?_) ?_;rotate_left
        ·have hb':=hw'.world;skip;clear hw';go_simp
         try rfl
        conv=>arg 10;simp only[Act.put,zq0,zq1,zq2]
       refine FS.wpF_nil (fun w105 hb hF=>?_);clear hF;have KG:=qk KG hb;clear hb;go_wp2_with fail
       go_ret;exact⟨by rw[HEND.out] <;> rfl,KG.out⟩
  ·have HEND:=qh (show true=bv by
    rw[HBV.out]
    exact(decide_eq_true (by have:=HKK0.out;have:=HK0.out;have:=HLN.out;omega)).symm)
   have hge:¬((k:Int)<(xn:Int)):=by omega
   clear hkl;go_wp2_with fail
   go_ret;exact⟨by rw[HEND.out] <;> rfl,KG.out⟩
theorem rcheck_k {w:World} {x:PV} {P:List Tm} (h:KP w x P) (hq:∀ t∈P,LQ t.2 900000) (hn:x.n≤1000000000):Calls Tryz.prog 18 #[x.v] w fun e w'=>e=.returned (.bool true)∧Below w.heap.size w w':=by
 obtain⟨K,h1,h2,h3,h4⟩:=h.ex
 have hR:RawP w x (K.map fun e=>(e.1,some e.2)):=by
  refine⟨by rw[List.map_map];exact h1,by rw[List.length_map];exact h2,h.le,fun e he=>?_,fun e he=>?_,fun e he=>?_⟩
  ·obtain⟨f,hf,rfl⟩:=List.mem_map.1 he;exact h3 f hf
  ·obtain⟨f,hf,rfl⟩:=List.mem_map.1 he;exact h.small (tm f) (by rw[← h4];exact List.mem_map_of_mem hf)
  ·obtain⟨f,hf,rfl⟩:=List.mem_map.1 he;exact(h3 f hf).len (hq (tm f) (by rw[← h4];exact List.mem_map_of_mem hf)) (Nat.le_refl _)
 have hok:okP (K.map fun e=>(e.1,some e.2)):=by
  refine⟨P,?_,h.canon⟩;rw[vals_iff];refine⟨by rw[← h4,List.length_map,List.length_map],fun i e he=>?_⟩;rw[List.getElem?_map] at he
  cases hk:K[i]? with
  | none=>rw[hk] at he;cases he
  | some f =>
   rw[hk] at he
   obtain rfl:(f.1,some f.2)=e:=by simpa using he
   exact⟨f.2,rfl,by rw[← h4,List.getElem?_map,hk];rfl⟩
 have g:=rcheck_raw x _ (K.map fun e=>(e.1,some e.2)).length w hR hn (Nat.le_refl _) ((okP_iff _).1 hok) (fun h=>absurd h (by omega))
 rwa [decide_eq_true rfl] at g
theorem rcheck_b {w:World} {x:PV} (h:BP w x) (hn:x.n≤1000000000):Calls Tryz.prog 18 #[x.v] w fun e w'=>e=.returned (.bool false)∧Below w.heap.size w w':=by
 obtain⟨L,hR,hk⟩:=h;rw[okP_iff] at hk
 have first:∀ n,n≤L.length→(∀ i,i<n→Ok1 L i)∨∃ k0,k0<n∧(∀ i,i<k0→Ok1 L i)∧¬Ok1 L k0:=by
  intro n
  induction n with
  | zero=>exact fun _=>Or.inl fun i hi=>by omega
  | succ n ih =>
   intro hn
   rcases ih (by omega) with h1 | ⟨k0,h1,h2⟩
   ·by_cases h2:Ok1 L n
    ·exact Or.inl fun i hi=>(Nat.lt_or_eq_of_le (Nat.le_of_lt_succ hi)).elim (h1 i) (fun e=>e▸h2)
    ·exact Or.inr ⟨n,by omega,h1,h2⟩
   ·exact Or.inr ⟨k0,by omega,h2⟩
 rcases first L.length (Nat.le_refl _) with h1 | ⟨k0,h1,h2,h3⟩
 ·exact absurd h1 hk
 ·have g:=rcheck_raw x L k0 w hR hn (Nat.le_of_lt h1) h2 (fun _=>h3)
  rwa [decide_eq_false (by omega)] at g
theorem rfit_k {w:World} {x:PV} {P:List Tm} (h:KP w x P) (hq:∀ t∈P,LQ t.2 900000) (hn:x.n≤1000000000):Calls Tryz.prog 47 #[x.v] w fun e w'=>e=.returned x.v∧Below w.heap.size w w':=by
 have C:=qh (rcheck_k h hq hn);go_enter Tryz.func47,Tryz.ntmps47;go_wp2_with fail
 refine C.out.mono ?_;rintro e w1 ⟨rfl,hb⟩;have HB:=qh hb;clear hb C;go_wp2_with fail
 go_ret;exact⟨rfl,HB.out⟩
theorem rfit_b {w:World} {x:PV} (h:BP w x) (hn:x.n≤1000000000):Calls Tryz.prog 47 #[x.v] w fun e w'=>e=.returned (.slice none 0 0)∧Below w.heap.size w w':=by
 have C:=qh (rcheck_b h hn);go_enter Tryz.func47,Tryz.ntmps47;go_wp2_with fail
 refine C.out.mono ?_;rintro e w1 ⟨rfl,hb⟩;have HB:=qh hb;clear hb C;go_wp2_with fail
 go_ret;exact⟨rfl,HB.out⟩
theorem moS {m:Mo} (h:m.Small):Mono.Small (fun i=>((m.at i:Nat):Int)):=fun i _=>⟨Int.natCast_nonneg _,by have:=at_small h i;show((m.at i:Nat):Int)≤65535;omega⟩
theorem mono_div (a b:Mo) (w:World) (ha:a.Small) (hb:b.Small) (h:b.stands a):Calls Tryz.prog 37 #[Mo.v a,Mo.v b] w fun e w'=>e=.returned (.tuple #[Mo.v (a.quo b),.bool true])∧Below w.heap.size w w':=by
 obtain⟨h1,h2,h3,h4⟩:=h
 have hB:Mono.divB (fun i=>((a.at i:Nat):Int)) (fun i=>((b.at i:Nat):Int))=true:=decide_eq_true (by
  show(b.x:Int)≤a.x∧(b.y:Int)≤a.y∧(b.z:Int)≤a.z∧(b.t:Int)≤a.t
  omega)
 refine(Mono.div_any (fun i=>((a.at i:Nat):Int)) (fun i=>((b.at i:Nat):Int)) w (moS ha) (moS hb)).mono ?_;rintro e w' ⟨rfl,hb⟩;refine⟨?_,hb⟩
 have e0:(a.x:Int)-b.x=((a.x-b.x:Nat):Int):=by omega
 have e1:(a.y:Int)-b.y=((a.y-b.y:Nat):Int):=by omega
 have e2:(a.z:Int)-b.z=((a.z-b.z:Nat):Int):=by omega
 have e3:(a.t:Int)-b.t=((a.t-b.t:Nat):Int):=by omega
 show Ending.returned (.tuple #[.agg #[.int .u16 (Mono.divM _ _ 0),.int .u16 (Mono.divM _ _ 1),.int .u16 (Mono.divM _ _ 2),.int .u16 (Mono.divM _ _ 3)],.bool (Mono.divB _ _)])=.returned (.tuple #[.agg #[.int .u16 ((a.x-b.x:Nat):Int),.int .u16 ((a.y-b.y:Nat):Int),.int .u16 ((a.z-b.z:Nat):Int),.int .u16 ((a.t-b.t:Nat):Int)],.bool true]);rw[hB,Mono.div_true hB,Mono.div_true hB,Mono.div_true hB,Mono.div_true hB,← e0,← e1,← e2,← e3]
 rfl
theorem mono_divN (a b:Mo) (w:World) (ha:a.Small) (hb:b.Small) (h:¬b.stands a):Calls Tryz.prog 37 #[Mo.v a,Mo.v b] w fun e w'=>e=.returned (.tuple #[.agg #[.int .u16 0,.int .u16 0,.int .u16 0,.int .u16 0],.bool false])∧Below w.heap.size w w':=by
 have hB:Mono.divB (fun i=>((a.at i:Nat):Int)) (fun i=>((b.at i:Nat):Int))=false:=decide_eq_false (by
  show ¬((b.x:Int)≤a.x∧(b.y:Int)≤a.y∧(b.z:Int)≤a.z∧(b.t:Int)≤a.t);intro h2
  exact h ⟨by omega,by omega,by omega,by omega⟩)
 refine(Mono.div_any (fun i=>((a.at i:Nat):Int)) (fun i=>((b.at i:Nat):Int)) w (moS ha) (moS hb)).mono ?_;rintro e w' ⟨rfl,hb⟩;refine⟨?_,hb⟩;rw[hB,Mono.divB_false hB]
 rfl
def dvC (y:FV) (m:Mo) (all often:PV):List Value:=[.bool y.t.s,.slice y.t.a y.t.n y.t.c,.bool y.l.s,.slice y.l.a y.l.n y.l.c,.int .u16 m.x,.int .u16 m.y,.int .u16 m.z,.int .u16 m.t,.slice all.a all.n all.c,.slice often.a often.n often.c]
theorem into_y (bd:Nat) (y:FV) (q:Rat) (m:Mo) (all often:PV) (t:FV) (tq:Rat) (tm:Mo) (w:World) (hd:Bxs w bd 58 (dvC y m all often)) (hst:tm.Small) (hsm:m.Small) (hs:m.stands tm) (hy:KF w y q) (ht:KF w t tq) (lq:LQ q 400000) (lt:LQ tq 400000) (hnz:q≠0) (hz:tq≠0) :
  Calls Tryz.prog 14 #[.pointer (some ⟨bd,0,none⟩),.agg #[.bool t.t.s,.slice t.t.a t.t.n t.t.c,.bool t.l.s,.slice t.l.a t.l.n t.l.c,.int .u16 tm.x,.int .u16 tm.y,.int .u16 tm.z,.int .u16 tm.t]] w fun e w'=>∃ u:PV,e=.returned (.tuple #[u.v,.bool true])∧DP w' w.heap.size u [byT (tm,tq) (m,q)]∧Below w.heap.size w w':=by
 have KG:=qh (Below.refl w.heap.size w);have BD:=qh (show Bxs w bd 58 [.bool y.t.s,.slice y.t.a y.t.n y.t.c,.bool y.l.s,.slice y.l.a y.l.n y.l.c,.int .u16 m.x,.int .u16 m.y,.int .u16 m.z,.int .u16 m.t,.slice all.a all.n all.c,.slice often.a often.n often.c] from hd);have HSA:=qh hst;have HSB:=qh hsm;have HST:=qh hs;have NY:=qh hy;have NT:=qh ht;have LQq:=qh lq;have LQtq:=qh lt;have HNZ:=qh hnz;clear hd hst hsm hs hy ht lq lt hnz;obtain⟨u,hu⟩:∃ v,v=tm.quo m:=⟨_,rfl⟩;have HU:=qh hu;clear hu;obtain⟨q5,hq5⟩:∃ z:Rat,z=tq/q:=⟨_,rfl⟩;have Hq5:=qh hq5;have LQq5:=qh (show LQ q5 800000 by rw[hq5];exact LQ.div (HNZ.out) (LQtq.out.up (by decide:_≤400000)) (LQq.out.up (by decide:_≤400000)) (by decide));clear hq5;go_enter Tryz.func14,Tryz.ntmps14
 go_upto_region 1 with (fail)
 obtain⟨v2,hV⟩:∃ V,V=w.alloc (.cells #[.bool t.t.s,.slice t.t.a t.t.n t.t.c,.bool t.l.s,.slice t.l.a t.l.n t.l.c,.int .u16 tm.x,.int .u16 tm.y,.int .u16 tm.z,.int .u16 tm.t] 32):=⟨_,rfl⟩
 have hbV:Below w.heap.size w v2:=by rw[hV];exact((Below.refl _ _).alloc (Nat.le_refl _) _)
 have BX1:=qh (show Bxs v2 (w.heap.size) 32 [.bool t.t.s,.slice t.t.a t.t.n t.t.c,.bool t.l.s,.slice t.l.a t.l.n t.l.c,.int .u16 tm.x,.int .u16 tm.y,.int .u16 tm.z,.int .u16 tm.t] by have h:=Bxs.new (w) 32 [.bool t.t.s,.slice t.t.a t.t.n t.t.c,.bool t.l.s,.slice t.l.a t.l.n t.l.c,.int .u16 tm.x,.int .u16 tm.y,.int .u16 tm.z,.int .u16 tm.t];rw[hV];exact h);rw[show w.alloc (.cells #[.bool t.t.s,.slice t.t.a t.t.n t.t.c,.bool t.l.s,.slice t.l.a t.l.n t.l.c,.int .u16 tm.x,.int .u16 tm.y,.int .u16 tm.z,.int .u16 tm.t] 32)=v2 from hV.symm];have BD:=qh (BD.out.below hbV BD.out.lt);have KG:=qk KG hbV;clear hV hbV
 go_upto_region 1 with (fail)
 refine FS.wp_region_fresh 13 [(12,11)] (FS.spOf [(7,FS.Sp.know (.tuple #[.agg #[.int .u16 u.x,.int .u16 u.y,.int .u16 u.z,.int .u16 u.t],.bool true])),(11,FS.Sp.box 30 4 v2.heap.size)])
  (fun w'=>Below v2.heap.size v2 w') (by kernel_rfl) (by kernel_rfl) (by kernel_rfl)
  (FS.spOf_cons (FS.Sp.know_keeps _ _) (FS.spOf_cons (FS.Sp.box_keeps _ _ _ _) (FS.spOf_nil))) (fun _ _ h hb=>h.trans (hb.mono h.size)) ((Below.refl _ _).drew) ?_
 simp only[List.append_eq,List.cons_append,List.nil_append,List.take_succ_cons,List.take_zero,List.drop_succ_cons,List.drop_zero]
 iterate 7
  refine FS.wpF_reads rfl rfl rfl ?_ (fun w' hw'=>?_) ?_;rotate_left
  ·have hb':=hw'.world;have hs0:=(BX1.out.below hb' BX1.out.lt).cell (i:=0) rfl;have hs1:=(BX1.out.below hb' BX1.out.lt).cell (i:=1) rfl;have hs2:=(BX1.out.below hb' BX1.out.lt).cell (i:=2) rfl;have hs3:=(BX1.out.below hb' BX1.out.lt).cell (i:=3) rfl;have hs4:=(BX1.out.below hb' BX1.out.lt).cell (i:=4) rfl;have hs5:=(BX1.out.below hb' BX1.out.lt).cell (i:=5) rfl;have hs6:=(BX1.out.below hb' BX1.out.lt).cell (i:=6) rfl;have hs7:=(BX1.out.below hb' BX1.out.lt).cell (i:=7) rfl;have hsf:=(BX1.out.below hb' BX1.out.lt).fz;have hsl:=(BX1.out.below hb' BX1.out.lt).lt;have hs0:=(BD.out.below hb' BD.out.lt).cell (i:=0) rfl;have hs1:=(BD.out.below hb' BD.out.lt).cell (i:=1) rfl;have hs2:=(BD.out.below hb' BD.out.lt).cell (i:=2) rfl;have hs3:=(BD.out.below hb' BD.out.lt).cell (i:=3) rfl;have hs4:=(BD.out.below hb' BD.out.lt).cell (i:=4) rfl;have hs5:=(BD.out.below hb' BD.out.lt).cell (i:=5) rfl;have hs6:=(BD.out.below hb' BD.out.lt).cell (i:=6) rfl;have hs7:=(BD.out.below hb' BD.out.lt).cell (i:=7) rfl;have hs8:=(BD.out.below hb' BD.out.lt).cell (i:=8) rfl;have hs9:=(BD.out.below hb' BD.out.lt).cell (i:=9) rfl;have hsf:=(BD.out.below hb' BD.out.lt).fz;have hsl:=(BD.out.below hb' BD.out.lt).lt;clear hw';go_simp
   try rfl
  conv=>arg 10;simp only[Act.put,zq0,zq1,zq2]
 refine FS.wpF_spec rfl rfl rfl (fun w' hw'=>?_) ?_
 ·have hb':=hw'.world;refine FS.gives_of (FS.PK (.tuple #[.agg #[.int .u16 u.x,.int .u16 u.y,.int .u16 u.z,.int .u16 u.t],.bool true])) ?_ (fun _ _ h=>h.post);go_simp;have CT:=mono_div tm m w' HSA.out HSB.out HST.out;rw[show(tm).quo m=u from HU.out.symm] at CT;refine CT.mono ?_;rintro e w'' ⟨rfl,hb⟩;exact⟨_,rfl,rfl,hb⟩
 rintro _ rfl
 conv=>arg 10;simp only[Act.put,zq0,zq1,zq2]
 iterate 3
  refine FS.wpF_reads rfl rfl rfl ?_ (fun w' hw'=>?_) ?_;rotate_left
  ·have hb':=hw'.world;skip;clear hw';go_simp
   try rfl
  conv=>arg 10;simp only[Act.put,zq0,zq1,zq2]
 refine FS.wpF_spec rfl rfl rfl (fun w' hw'=>?_) ?_
 ·have hb':=hw'.world;refine FS.gives_of (FS.PB 30 4 v2.heap.size w'.heap.size) ?_ (fun _ _ h=>h.post);go_simp;exact⟨FS.PB.new _ rfl hb'.size,(Below.refl _ _).alloc (Nat.le_refl _) _⟩
 rintro _ ⟨y11,rfl⟩
 conv=>arg 10;simp only[Act.put,zq0,zq1,zq2]
 refine FS.wpF_store rfl rfl 11 rfl rfl rfl rfl (fun _=>Iff.rfl) (fun w' hw'=>?_) ?_
 ·have hb':=hw'.world;have hX:=FS.box_of (hw'.fact 11 (by kernel_rfl));obtain⟨c0,c1,c2,c3,hB⟩:=shp4 hX.1;have m0:=hB.cell (i:=0) rfl;have m1:=hB.cell (i:=1) rfl;have m2:=hB.cell (i:=2) rfl;have m3:=hB.cell (i:=3) rfl;have mf:=hB.fz;have ml:=hB.lt;refine FS.stores_of ?_ (store4 hb' hX.2 hB (.int .u16 u.x) (.int .u16 u.y) (.int .u16 u.z) (.int .u16 u.t));clear hw';go_simp
  try rfl
 conv=>arg 10;simp only[Act.put,zq0,zq1,zq2]
 refine FS.wpF_nil (fun w4 hb hF=>?_);have BX3:=qh (show Bxs w4 y11 30 [.int .u16 u.x,.int .u16 u.y,.int .u16 u.z,.int .u16 u.t] from stored_bxs (hF.all 12));clear hF;have BD:=qh (BD.out.below hb BD.out.lt);have BX1:=qh (BX1.out.below hb BX1.out.lt);have KG:=qk KG hb;clear hb;have HSZ:=qh (show w.heap.size≤w4.heap.size from KG.out.size)
 go_upto_region 4 with (fail)
 refine FS.wp_region_fresh 13 [(12,11)] (FS.spOf [(7,FS.Sp.made (fun x:FV=>.tuple #[x.v,.int .i64 0]) (fun x w'=>DF w' w4.heap.size x q5) FV.blk),(11,FS.Sp.box 28 4 w4.heap.size)])
  (fun w'=>Below w4.heap.size w4 w') (by kernel_rfl) (by kernel_rfl) (by kernel_rfl)
  (FS.spOf_cons (FS.Sp.made_keeps _ (fun _ _ _ h _ hk=>h.kept hk) (FS.notTaken (by kernel_rfl))) (FS.spOf_cons (FS.Sp.box_keeps _ _ _ _) (FS.spOf_nil))) (fun _ _ h hb=>h.trans (hb.mono h.size)) ((Below.refl _ _).drew) ?_
 simp only[List.append_eq,List.cons_append,List.nil_append,List.take_succ_cons,List.take_zero,List.drop_succ_cons,List.drop_zero]
 iterate 7
  refine FS.wpF_reads rfl rfl rfl ?_ (fun w' hw'=>?_) ?_;rotate_left
  ·have hb':=hw'.world;have hs0:=(BX1.out.below hb' BX1.out.lt).cell (i:=0) rfl;have hs1:=(BX1.out.below hb' BX1.out.lt).cell (i:=1) rfl;have hs2:=(BX1.out.below hb' BX1.out.lt).cell (i:=2) rfl;have hs3:=(BX1.out.below hb' BX1.out.lt).cell (i:=3) rfl;have hs4:=(BX1.out.below hb' BX1.out.lt).cell (i:=4) rfl;have hs5:=(BX1.out.below hb' BX1.out.lt).cell (i:=5) rfl;have hs6:=(BX1.out.below hb' BX1.out.lt).cell (i:=6) rfl;have hs7:=(BX1.out.below hb' BX1.out.lt).cell (i:=7) rfl;have hsf:=(BX1.out.below hb' BX1.out.lt).fz;have hsl:=(BX1.out.below hb' BX1.out.lt).lt;have hs0:=(BD.out.below hb' BD.out.lt).cell (i:=0) rfl;have hs1:=(BD.out.below hb' BD.out.lt).cell (i:=1) rfl;have hs2:=(BD.out.below hb' BD.out.lt).cell (i:=2) rfl;have hs3:=(BD.out.below hb' BD.out.lt).cell (i:=3) rfl;have hs4:=(BD.out.below hb' BD.out.lt).cell (i:=4) rfl;have hs5:=(BD.out.below hb' BD.out.lt).cell (i:=5) rfl;have hs6:=(BD.out.below hb' BD.out.lt).cell (i:=6) rfl;have hs7:=(BD.out.below hb' BD.out.lt).cell (i:=7) rfl;have hs8:=(BD.out.below hb' BD.out.lt).cell (i:=8) rfl;have hs9:=(BD.out.below hb' BD.out.lt).cell (i:=9) rfl;have hsf:=(BD.out.below hb' BD.out.lt).fz;have hsl:=(BD.out.below hb' BD.out.lt).lt;clear hw';go_simp
   try rfl
  conv=>arg 10;simp only[Act.put,zq0,zq1,zq2]
 refine FS.wpF_spec rfl rfl rfl (fun w' hw'=>?_) ?_
 ·have hb':=hw'.world;refine FS.gives_of (FS.PM (fun x:FV=>.tuple #[x.v,.int .i64 0]) (fun x w'=>DF w' w4.heap.size x q5) FV.blk w'.heap.size) ?_ (fun _ _ h=>h.post (FV.injE 0));go_simp;have CT:=qdiv (NT.out.below (KG.out.trans (hb'.mono KG.out.size))) (((NT.out.below (KG.out.trans (hb'.mono KG.out.size)))).len LQtq.out (by decide:_≤900000)) (NY.out.below (KG.out.trans (hb'.mono KG.out.size))) (((NY.out.below (KG.out.trans (hb'.mono KG.out.size)))).len LQq.out (by decide:_≤900000)) (HNZ.out);rw[show tq/q=q5 from Hq5.out.symm] at CT;refine CT.mono ?_;rintro e w'' ⟨za,rfl,ho,hb⟩;exact⟨_,rfl,⟨za,rfl,ho.mono hb'.size,ho.blks⟩,hb⟩
 rintro _ ⟨y7,rfl⟩
 conv=>arg 10;simp only[Act.put,zq0,zq1,zq2]
 iterate 3
  refine FS.wpF_reads rfl rfl rfl ?_ (fun w' hw'=>?_) ?_;rotate_left
  ·have hb':=hw'.world;skip;clear hw';go_simp
   try rfl
  conv=>arg 10;simp only[Act.put,zq0,zq1,zq2]
 refine FS.wpF_spec rfl rfl rfl (fun w' hw'=>?_) ?_
 ·have hb':=hw'.world;refine FS.gives_of (FS.PB 28 4 w4.heap.size w'.heap.size) ?_ (fun _ _ h=>h.post);go_simp;exact⟨FS.PB.new _ rfl hb'.size,(Below.refl _ _).alloc (Nat.le_refl _) _⟩
 rintro _ ⟨y11,rfl⟩
 conv=>arg 10;simp only[Act.put,zq0,zq1,zq2]
 refine FS.wpF_store rfl rfl 11 rfl rfl rfl rfl (fun _=>Iff.rfl) (fun w' hw'=>?_) ?_
 ·have hb':=hw'.world;have hX:=FS.box_of (hw'.fact 11 (by kernel_rfl));obtain⟨c0,c1,c2,c3,hB⟩:=shp4 hX.1;have m0:=hB.cell (i:=0) rfl;have m1:=hB.cell (i:=1) rfl;have m2:=hB.cell (i:=2) rfl;have m3:=hB.cell (i:=3) rfl;have mf:=hB.fz;have ml:=hB.lt;refine FS.stores_of ?_ (store4 hb' hX.2 hB (.bool y7.t.s) (.slice y7.t.a y7.t.n y7.t.c) (.bool y7.l.s) (.slice y7.l.a y7.l.n y7.l.c));clear hw';go_simp
  try rfl
 conv=>arg 10;simp only[Act.put,zq0,zq1,zq2]
 refine FS.wpF_nil (fun w7 hb hF=>?_);have BX6:=qh (show Bxs w7 y11 28 [.bool y7.t.s,.slice y7.t.a y7.t.n y7.t.c,.bool y7.l.s,.slice y7.l.a y7.l.n y7.l.c] from stored_bxs (hF.all 12));have N8:=qh (show DF w7 w4.heap.size y7 q5 from(FS.made_of (val:=(fun x:FV=>.tuple #[x.v,.int .i64 0])) (Φ:=fun x w'=>DF w' w4.heap.size x q5) (FV.injE 0) (hF.all 7)));clear hF;clear BD;clear BX1;have BX3:=qh (BX3.out.below hb BX3.out.lt);have KG:=qk KG hb;clear hb;have cBX60:=BX6.out.cell (i:=0) rfl;have cBX61:=BX6.out.cell (i:=1) rfl;have cBX62:=BX6.out.cell (i:=2) rfl;have cBX63:=BX6.out.cell (i:=3) rfl;have cBX6f:=BX6.out.fz;have cBX6l:=BX6.out.lt;have cBX30:=BX3.out.cell (i:=0) rfl;have cBX31:=BX3.out.cell (i:=1) rfl;have cBX32:=BX3.out.cell (i:=2) rfl;have cBX33:=BX3.out.cell (i:=3) rfl;have cBX3f:=BX3.out.fz;have cBX3l:=BX3.out.lt;go_wp2_with fail
 go_ret2;have hal:Below w7.heap.size w7 (w7.alloc (.cells (TV.cells ⟨y7,u⟩).toArray 32)):=(Below.refl _ _).alloc (Nat.le_refl _) _;refine⟨⟨some ⟨w7.heap.size,0,none⟩,1,1⟩,rfl,?_,KG.out.trans (hal.mono KG.out.size)⟩;refine⟨⟨[(⟨y7,u⟩,q5)],?_,fun e he=>?_,List.pairwise_singleton _ _,?_⟩,canon_single (byT_ne hz HNZ.out),fun t ht=>?_⟩
 ·show World.ownsRow _ _ _ _ _ _ _;exact World.ownsRow_lit (base:=w.heap.size) (e:=32) (size:=8) w7 (TV.cells ⟨y7,u⟩).toArray 1 KG.out.size (by decide) rfl
 ·rw[List.mem_singleton.1 he];exact(N8.out.mono HSZ.out).below hal
 ·show[(u,q5)]=[byT (tm,tq) (m,q)];rw[show q5=tq/q from Hq5.out,show u=tm.quo m from HU.out]
  rfl
 ·rw[List.mem_singleton.1 ht];exact⟨Nat.le_trans (Nat.sub_le _ _) HSA.out.1,Nat.le_trans (Nat.sub_le _ _) HSA.out.2.1,Nat.le_trans (Nat.sub_le _ _) HSA.out.2.2.1,Nat.le_trans (Nat.sub_le _ _) HSA.out.2.2.2⟩
theorem into_n (bd:Nat) (y:FV) (q:Rat) (m:Mo) (all often:PV) (t:FV) (tq:Rat) (tm:Mo) (w:World) (hd:Bxs w bd 58 (dvC y m all often)) (hst:tm.Small) (hsm:m.Small) (hs:¬m.stands tm) (hy:KF w y q) (ht:KF w t tq) (lq:LQ q 400000) (lt:LQ tq 400000) (hnz:q≠0) :
  Calls Tryz.prog 14 #[.pointer (some ⟨bd,0,none⟩),.agg #[.bool t.t.s,.slice t.t.a t.t.n t.t.c,.bool t.l.s,.slice t.l.a t.l.n t.l.c,.int .u16 tm.x,.int .u16 tm.y,.int .u16 tm.z,.int .u16 tm.t]] w fun e w'=>e=.returned (.tuple #[.slice none 0 0,.bool false])∧Below w.heap.size w w':=by
 have KG:=qh (Below.refl w.heap.size w);have BD:=qh (show Bxs w bd 58 [.bool y.t.s,.slice y.t.a y.t.n y.t.c,.bool y.l.s,.slice y.l.a y.l.n y.l.c,.int .u16 m.x,.int .u16 m.y,.int .u16 m.z,.int .u16 m.t,.slice all.a all.n all.c,.slice often.a often.n often.c] from hd);have HSA:=qh hst;have HSB:=qh hsm;have HST:=qh hs;have NY:=qh hy;have NT:=qh ht;have LQq:=qh lq;have LQtq:=qh lt;have HNZ:=qh hnz;clear hd hst hsm hs hy ht lq lt hnz;go_enter Tryz.func14,Tryz.ntmps14
 go_upto_region 1 with (fail)
 obtain⟨v2,hV⟩:∃ V,V=w.alloc (.cells #[.bool t.t.s,.slice t.t.a t.t.n t.t.c,.bool t.l.s,.slice t.l.a t.l.n t.l.c,.int .u16 tm.x,.int .u16 tm.y,.int .u16 tm.z,.int .u16 tm.t] 32):=⟨_,rfl⟩
 have hbV:Below w.heap.size w v2:=by rw[hV];exact((Below.refl _ _).alloc (Nat.le_refl _) _)
 have BX1:=qh (show Bxs v2 (w.heap.size) 32 [.bool t.t.s,.slice t.t.a t.t.n t.t.c,.bool t.l.s,.slice t.l.a t.l.n t.l.c,.int .u16 tm.x,.int .u16 tm.y,.int .u16 tm.z,.int .u16 tm.t] by have h:=Bxs.new (w) 32 [.bool t.t.s,.slice t.t.a t.t.n t.t.c,.bool t.l.s,.slice t.l.a t.l.n t.l.c,.int .u16 tm.x,.int .u16 tm.y,.int .u16 tm.z,.int .u16 tm.t];rw[hV];exact h);rw[show w.alloc (.cells #[.bool t.t.s,.slice t.t.a t.t.n t.t.c,.bool t.l.s,.slice t.l.a t.l.n t.l.c,.int .u16 tm.x,.int .u16 tm.y,.int .u16 tm.z,.int .u16 tm.t] 32)=v2 from hV.symm];have BD:=qh (BD.out.below hbV BD.out.lt);have KG:=qk KG hbV;clear hV hbV
 go_upto_region 1 with (fail)
 refine FS.wp_region_fresh 13 [(12,11)] (FS.spOf [(7,FS.Sp.know (.tuple #[.agg #[.int .u16 0,.int .u16 0,.int .u16 0,.int .u16 0],.bool false])),(11,FS.Sp.box 30 4 v2.heap.size)])
  (fun w'=>Below v2.heap.size v2 w') (by kernel_rfl) (by kernel_rfl) (by kernel_rfl)
  (FS.spOf_cons (FS.Sp.know_keeps _ _) (FS.spOf_cons (FS.Sp.box_keeps _ _ _ _) (FS.spOf_nil))) (fun _ _ h hb=>h.trans (hb.mono h.size)) ((Below.refl _ _).drew) ?_
 simp only[List.append_eq,List.cons_append,List.nil_append,List.take_succ_cons,List.take_zero,List.drop_succ_cons,List.drop_zero]
 iterate 7
  refine FS.wpF_reads rfl rfl rfl ?_ (fun w' hw'=>?_) ?_;rotate_left
  ·have hb':=hw'.world;have hs0:=(BX1.out.below hb' BX1.out.lt).cell (i:=0) rfl;have hs1:=(BX1.out.below hb' BX1.out.lt).cell (i:=1) rfl;have hs2:=(BX1.out.below hb' BX1.out.lt).cell (i:=2) rfl;have hs3:=(BX1.out.below hb' BX1.out.lt).cell (i:=3) rfl;have hs4:=(BX1.out.below hb' BX1.out.lt).cell (i:=4) rfl;have hs5:=(BX1.out.below hb' BX1.out.lt).cell (i:=5) rfl;have hs6:=(BX1.out.below hb' BX1.out.lt).cell (i:=6) rfl;have hs7:=(BX1.out.below hb' BX1.out.lt).cell (i:=7) rfl;have hsf:=(BX1.out.below hb' BX1.out.lt).fz;have hsl:=(BX1.out.below hb' BX1.out.lt).lt;have hs0:=(BD.out.below hb' BD.out.lt).cell (i:=0) rfl;have hs1:=(BD.out.below hb' BD.out.lt).cell (i:=1) rfl;have hs2:=(BD.out.below hb' BD.out.lt).cell (i:=2) rfl;have hs3:=(BD.out.below hb' BD.out.lt).cell (i:=3) rfl;have hs4:=(BD.out.below hb' BD.out.lt).cell (i:=4) rfl;have hs5:=(BD.out.below hb' BD.out.lt).cell (i:=5) rfl;have hs6:=(BD.out.below hb' BD.out.lt).cell (i:=6) rfl;have hs7:=(BD.out.below hb' BD.out.lt).cell (i:=7) rfl;have hs8:=(BD.out.below hb' BD.out.lt).cell (i:=8) rfl;have hs9:=(BD.out.below hb' BD.out.lt).cell (i:=9) rfl;have hsf:=(BD.out.below hb' BD.out.lt).fz;have hsl:=(BD.out.below hb' BD.out.lt).lt;clear hw';go_simp
   try rfl
  conv=>arg 10;simp only[Act.put,zq0,zq1,zq2]
 refine FS.wpF_spec rfl rfl rfl (fun w' hw'=>?_) ?_
 ·have hb':=hw'.world;refine FS.gives_of (FS.PK (.tuple #[.agg #[.int .u16 0,.int .u16 0,.int .u16 0,.int .u16 0],.bool false])) ?_ (fun _ _ h=>h.post);go_simp;have CT:=mono_divN tm m w' HSA.out HSB.out HST.out;refine CT.mono ?_;rintro e w'' ⟨rfl,hb⟩;exact⟨_,rfl,rfl,hb⟩
 rintro _ rfl
 conv=>arg 10;simp only[Act.put,zq0,zq1,zq2]
 iterate 3
  refine FS.wpF_reads rfl rfl rfl ?_ (fun w' hw'=>?_) ?_;rotate_left
  ·have hb':=hw'.world;skip;clear hw';go_simp
   try rfl
  conv=>arg 10;simp only[Act.put,zq0,zq1,zq2]
 refine FS.wpF_spec rfl rfl rfl (fun w' hw'=>?_) ?_
 ·have hb':=hw'.world;refine FS.gives_of (FS.PB 30 4 v2.heap.size w'.heap.size) ?_ (fun _ _ h=>h.post);go_simp;exact⟨FS.PB.new _ rfl hb'.size,(Below.refl _ _).alloc (Nat.le_refl _) _⟩
 rintro _ ⟨y11,rfl⟩
 conv=>arg 10;simp only[Act.put,zq0,zq1,zq2]
 refine FS.wpF_store rfl rfl 11 rfl rfl rfl rfl (fun _=>Iff.rfl) (fun w' hw'=>?_) ?_
 ·have hb':=hw'.world;have hX:=FS.box_of (hw'.fact 11 (by kernel_rfl));obtain⟨c0,c1,c2,c3,hB⟩:=shp4 hX.1;have m0:=hB.cell (i:=0) rfl;have m1:=hB.cell (i:=1) rfl;have m2:=hB.cell (i:=2) rfl;have m3:=hB.cell (i:=3) rfl;have mf:=hB.fz;have ml:=hB.lt;refine FS.stores_of ?_ (store4 hb' hX.2 hB (.int .u16 0) (.int .u16 0) (.int .u16 0) (.int .u16 0));clear hw';go_simp
  try rfl
 conv=>arg 10;simp only[Act.put,zq0,zq1,zq2]
 refine FS.wpF_nil (fun w4 hb hF=>?_);have BX3:=qh (show Bxs w4 y11 30 [.int .u16 0,.int .u16 0,.int .u16 0,.int .u16 0] from stored_bxs (hF.all 12));clear hF;clear BD;clear BX1;have KG:=qk KG hb;clear hb;clear BX3;go_wp2_with fail
 go_ret2;exact⟨rfl,KG.out⟩
structure RS (w:World) (a:Option Addr) (ps:List PV):Prop where
 ex:ps≠[]→∃ b off,a=some ⟨b,off,none⟩∧∀ i p,ps[i]?=some p→w.cell? ⟨b,off+i,none⟩=some p.v
theorem RS.nil (w:World) (a:Option Addr):RS w a []:=⟨fun h=>absurd rfl h⟩
theorem RS.below {w w':World} {a:Option Addr} {ps:List PV} (h:RS w a ps) (hb:Below w.heap.size w w'):RS w' a ps:=by
 refine⟨fun hn=>?_⟩;obtain⟨b,off,ha,hc⟩:=h.ex hn;refine⟨b,off,ha,fun i p hi=>?_⟩;have h1:=hc i p hi;exact(hb.cell (p:=⟨b,off+i,none⟩) (block_lt_of_cell h1)).trans h1
theorem PV.injE (n:Int):∀ x y:PV,Value.tuple #[x.v,.int .i64 n]=Value.tuple #[y.v,.int .i64 n]→x=y:=fun x y h=>PV.inj (by
 have h:=Value.tuple.inj h;have h2:=congrArg (fun a:Array Value=>a[0]?) h
 exact Option.some.inj h2)
def rowT (T:TypeId):Bool:=T==32 || T==44
theorem DP.rows {w w':World} {lo:Nat} {x:PV} {P:List Tm} (h:DP w lo x P) (hs:∀ (b:Nat) (c:Array Value) (T:TypeId),w.heap[b]?=some (.cells c T (0,0))→rowT T=true→w'.heap[b]?=w.heap[b]?):DP w' lo x P:=by
 obtain⟨L,h1,h2,h3,h4⟩:=h.ex;refine⟨⟨L,⟨h1.1,h1.2.imp id ?_⟩,fun e he=>(h2 e he).kept fun b hb=>?_,h3,h4⟩,h.canon,h.small⟩
 ·rintro⟨g,cap,cur,hv,hlo,hgk,h3⟩;exact⟨g,cap,cur,hv,hlo,(hs g _ _ hgk rfl).trans hgk,h3⟩
 ·obtain⟨cur,h5⟩:=DF.blkc (h2 e he) hb;exact hs b _ _ h5 rfl
theorem bad1 (p:PV) (b:Bool) (w:World) (h:Calls Tryz.prog 9 #[p.v] w fun e w'=>e=.returned (.bool b)∧Below w.heap.size w w') :
  Calls Tryz.prog 11 #[p.v] w fun e w'=>e=.returned (.bool (!b))∧Below w.heap.size w w':=by
 have CK:=qh h;clear h;obtain⟨xa,xn,xc⟩:=p;change Calls Tryz.prog 11 #[.slice xa xn xc] w _;go_enter Tryz.func11,Tryz.ntmps11;go_wp2_with fail
 with_reducible refine CK.out.mono ?_
 rintro e w1 ⟨rfl,hb⟩;have KG:=qh hb;clear hb CK;go_wp2_with fail
 go_ret;exact⟨rfl,KG.out⟩
theorem idx_l (a:Option Addr) (c:Nat) (ps:List PV) (k0:Nat) (w:World) (hr:RS w a ps) (hn:ps.length≤1000) (hk:k0≤ps.length)
  (hok:∀ i p,i<k0→ps[i]?=some p→∀ w1,Below w.heap.size w w1→Calls Tryz.prog 9 #[p.v] w1 fun e w'=>e=.returned (.bool true)∧Below w1.heap.size w1 w')
  (hbad:∀ p,ps[k0]?=some p→∀ w1,Below w.heap.size w w1→Calls Tryz.prog 9 #[p.v] w1 fun e w'=>e=.returned (.bool false)∧Below w1.heap.size w1 w') :
  Calls Tryz.prog 30 #[.slice a ps.length c,.func (.func 11) #[] #[]] w fun e w'=>e=.returned (.int .i64 (if k0<ps.length then (k0:Int) else -1))∧Below w.heap.size w w':=by
 have HR:=qh hr;have HN:=qh hn;have HK:=qh hk;have HOK:=qh hok;have HBD:=qh hbad
 have hcf:∀ (args:Array Value) (w:World),(callFunc 11 args).run Tryz.prog w=.ok (.enter 11 args) w:=fun _ _=>by kernel_rfl
 obtain⟨n,hnn⟩:∃ n,n=ps.length:=⟨_,rfl⟩;rw[← hnn];have HNN:=qh hnn;clear hr hn hk hok hbad hnn;go_enter Tryz.func30,Tryz.ntmps30;go_wp2_with fail
 go_loopw [8] (fun i wr=>∃ j:Nat,j≤k0∧i=.int .i64 j∧Below w.heap.size w wr) (fun i _=>n-(intOf i).toNat)
 case atStart=>exact⟨0,Nat.zero_le _,rfl,Below.refl _ _⟩
 case round =>
  obtain⟨j,hj,rfl,hb0⟩:=hrel;have KG:=qh hb0;have HJ:=qh hj;clear hj hb0
  by_cases hjn:j<n
  ·have HJN:=qh hjn
   have hjl:j<ps.length:=by rw[← HNN.out];exact hjn
   obtain⟨pb,po,rfl,hcs⟩:=(HR.out.below KG.out).ex (fun e=>by rw[e] at hjl;simp at hjl);obtain⟨p,hp⟩:∃ p,ps[j]?=some p:=⟨_,List.getElem?_eq_getElem hjl⟩;have hc:=hcs j p hp
   have hlt:(j:Int)<(n:Int):=by omega
   have ek:IntKind.i64.wrap ((j:Int)+1)=(j:Int)+1:=IntWalk.i64_in _ (by have:=HN.out;omega);have HPJ:=qh hp;obtain⟨xa,xn,xc⟩:=p;change wr.cell? ⟨pb,po+j,none⟩=some (.slice xa xn xc) at hc
   by_cases hjk:j<k0
   ·have CK:=qh (bad1 ⟨xa,xn,xc⟩ true wr (HOK.out j _ hjk HPJ.out wr KG.out));have HJK:=qh hjk;clear hjl hp hcs hjn hjk;go_wp2_with fail
    with_reducible refine CK.out.mono ?_
    rintro e w1 ⟨rfl,hb⟩;have KG:=qk KG hb;clear hb CK hc;go_wp2_with fail
    go_roundw
    case rel=>exact⟨j+1,by have:=HJK.out;omega,rfl,KG.out⟩
    case measure=>simp[intOf];have:=HJN.out;omega
   ·obtain rfl:j=k0:=by have:=HJ.out;omega
    have CK:=qh (bad1 ⟨xa,xn,xc⟩ false wr (HBD.out _ HPJ.out wr KG.out));clear hjl hp hcs hjn hjk;go_wp2_with fail
    with_reducible refine CK.out.mono ?_
    rintro e w1 ⟨rfl,hb⟩;have KG:=qk KG hb;clear hb CK hc;go_wp2_with fail
    go_ret;exact⟨by first | rfl | rw[if_pos HJN.out];rfl | rw[if_pos HJN.out],KG.out⟩
  ·have hge:¬((j:Int)<(n:Int)):=by omega
   have HKN:=qh (show ¬k0<n by have:=HJ.out;have:=HK.out;have:=HNN.out;omega);clear hjn;go_wp2_with fail
   go_ret;exact⟨by first | rfl | rw[if_neg HKN.out];rfl | rw[if_neg HKN.out],KG.out⟩
theorem con_l (a:Option Addr) (c:Nat) (ps:List PV) (k0:Nat) (w:World) (hr:RS w a ps) (hn:ps.length≤1000) (hk:k0≤ps.length)
  (hok:∀ i p,i<k0→ps[i]?=some p→∀ w1,Below w.heap.size w w1→Calls Tryz.prog 9 #[p.v] w1 fun e w'=>e=.returned (.bool true)∧Below w1.heap.size w1 w')
  (hbad:∀ p,ps[k0]?=some p→∀ w1,Below w.heap.size w w1→Calls Tryz.prog 9 #[p.v] w1 fun e w'=>e=.returned (.bool false)∧Below w1.heap.size w1 w') :
  Calls Tryz.prog 10 #[.slice a ps.length c,.func (.func 11) #[] #[]] w fun e w'=>e=.returned (.bool (decide (k0<ps.length)))∧Below w.heap.size w w':=by
 have IK:=qh (idx_l a c ps k0 w hr hn hk hok hbad)
 obtain⟨z,hz⟩:∃ z:Int,z=if k0<ps.length then (k0:Int) else -1:=⟨_,rfl⟩
 rw[← hz] at IK
 have HZ:=qh (show decide (0≤z)=decide (k0<ps.length) by
  rw[hz]
  by_cases h:k0<ps.length
  ·rw[if_pos h,decide_eq_true h];exact decide_eq_true (Int.natCast_nonneg _)
  ·rw[if_neg h,decide_eq_false h];rfl)
 obtain⟨n,hnn⟩:∃ n,n=ps.length:=⟨_,rfl⟩;rw[← hnn] at IK HZ ⊢;clear hr hn hk hok hbad hz hnn;go_enter Tryz.func10,Tryz.ntmps10;go_wp2_with fail
 with_reducible refine IK.out.mono ?_
 rintro e w1 ⟨rfl,hb⟩;have KG:=qh hb;clear hb IK;go_wp2_with fail
 go_ret;exact⟨by rw[← HZ.out];rfl,KG.out⟩
theorem DP.void (w:World) (lo:Nat):DP w lo ⟨none,0,0⟩ []:=⟨⟨[],World.ownsRow_nil _ _ _ _,fun e he=>(by cases he),List.Pairwise.nil,rfl⟩,Canon.nil,fun t ht=>(by cases ht)⟩
theorem infoD:(Tryz.prog.info? 52).map (fun i=>(i.zero,i.size,i.bytes))=some (some (.pointer none),1,8):=by kernel_rfl
abbrev ptr (b:Nat):Value:=.pointer (some ⟨b,0,none⟩)
structure DvR where
 b:Nat
 y:FV
 x:PV
 z:PV
abbrev DvE:=DvR × (Dv × List Tm)
structure DvOK (w0 w:World) (lo:Nat) (e:DvE):Prop where
 ge:lo≤e.1.b
 bx:Bxs w e.1.b 58 (dvC e.1.y e.2.1.1.1 e.1.x e.1.z)
 le:DF w lo e.1.y e.2.1.1.2
 all:KP w0 e.1.x e.2.1.2
 of:DP w lo e.1.z e.2.2
theorem DvOK.below {w0 w w':World} {lo:Nat} {e:DvE} (h:DvOK w0 w lo e) (hb:Below w.heap.size w w'):DvOK w0 w' lo e:=⟨h.ge,h.bx.below hb h.bx.lt,h.le.below hb,h.all,h.of.below hb⟩
abbrev OD (w:World) (lo:Nat) (v:Value) (bs:List Nat):Prop:=w.ownsRow lo 52 1 v bs.length (bs.map ptr)
theorem OD.below {w w':World} {lo:Nat} {v:Value} {bs:List Nat} (h:OD w lo v bs) (hb:Below w.heap.size w w'):OD w' lo v bs:=by
 refine⟨h.1,h.2.imp id ?_⟩;rintro⟨g,cap,cur,hv,hlo,hg,h3⟩;exact⟨g,cap,cur,hv,hlo,(hb.block g (lt_of_block hg)).trans hg,h3⟩
theorem OD.own {w:World} {lo:Nat} {v:Value} {bs:List Nat} (h:OD w lo v bs) {k:Nat} (hk:some k=v.ownBlock):lo≤k∧∃ cur,w.heap[k]?=some (.cells cur 52 (0,0)):=by
 rcases h.2 with ⟨hv,_⟩ | ⟨g,cap,cur,hv,hlo,hg,_⟩
 ·rw[hv] at hk;cases hk
 ·rw[hv] at hk;have hk:some k=some g:=hk
  cases hk
  exact⟨hlo,cur,hg⟩
theorem DvOK.kept {w0 w w':World} {lo:Nat} {e:DvE} (h:DvOK w0 w lo e) (hk:∀ (b:Nat) (c:Array Value) (T:TypeId),w.heap[b]?=some (.cells c T (0,0))→(rowT T || T==58)=true→w'.heap[b]?=w.heap[b]?):DvOK w0 w' lo e :=
 ⟨h.ge,h.bx.of (hk _ _ _ h.bx rfl),h.le.kept fun b hb=>let ⟨_,h5⟩:=DF.blkc h.le hb;hk b _ _ h5 rfl,h.all,h.of.rows fun b c T hg ht=>hk b c T hg (by rw[ht];rfl)⟩
theorem OD.other {w w':World} {lo:Nat} {v:Value} {bs:List Nat} (h:OD w lo v bs) (hg:w.grownBy w' v.ownBlock):∀ (b:Nat) (c:Array Value) (T:TypeId),w.heap[b]?=some (.cells c T (0,0))→(rowT T || T==58)=true→w'.heap[b]?=w.heap[b]?:=fun b c T hb hT =>
 hg.block b (lt_of_block hb) fun e=>by
  obtain⟨_,c2,h5⟩:=h.own e;rw[hb] at h5
  have:T=52:=by injection h5 with h5;injection h5
  subst this;exact absurd hT (by decide)
structure DVS (w0 w:World) (lo:Nat) (v:Value) (es:List DvE):Prop where
 row:OD w lo v (es.map fun e=>e.1.b)
 ok:∀ e∈es,DvOK w0 w lo e
 ap:(es.map fun e=>e.1.b).Nodup
theorem DVS.below {w0 w w':World} {lo:Nat} {v:Value} {es:List DvE} (h:DVS w0 w lo v es) (hb:Below w.heap.size w w'):DVS w0 w' lo v es:=⟨h.row.below hb,fun e he=>(h.ok e he).below hb,h.ap⟩
theorem DVS.nil (w0 w:World) (lo:Nat):DVS w0 w lo (.slice none 0 0) []:=⟨World.ownsRow_nil _ _ _ _,fun e he=>(by cases he),List.nodup_nil⟩
theorem DVS.push {w0 wr wx:World} {lo:Nat} {v v':Value} {es:List DvE} {e:DvE} {D S:Obj} (h:DVS w0 wr lo v es) (he:DvOK w0 (wr.alloc D) lo e) (hb:e.1.b=wr.heap.size)
  (ho:OD wx lo v' (es.map (fun e=>e.1.b)++[e.1.b])) (hg:((wr.alloc D).alloc S).grownBy wx v.ownBlock):DVS w0 wx lo v' (es++[e]):=by
 have h1:Below wr.heap.size wr ((wr.alloc D).alloc S):=((Below.refl _ _).alloc (Nat.le_refl _) _).alloc (by simp) _;have h2:Below (wr.alloc D).heap.size (wr.alloc D) ((wr.alloc D).alloc S):=(Below.refl _ _).alloc (Nat.le_refl _) _;have h3:=h.below h1;have hk:=h3.row.other hg;refine⟨by rw[List.map_append];exact ho,fun d hd=>?_,?_⟩
 ·rcases List.mem_append.1 hd with hd | hd
  ·exact(h3.ok d hd).kept hk
  ·rw[List.mem_singleton.1 hd];exact(he.below h2).kept hk
 ·rw[List.map_append];refine List.nodup_append.2 ⟨h.ap,List.nodup_cons.2 ⟨by simp,List.nodup_nil⟩,fun b hb1 c hc e1=>?_⟩;obtain⟨d,hd,rfl⟩:=List.mem_map.1 hb1
  obtain rfl:c=e.1.b:=by simpa using hc
  have:=(h.ok d hd).bx.lt;omega
def DvsR (w:World) (o:Int) (qs:List (PV × List Tm)) (e:Ending) (w':World):Prop :=
 ∃ v es,e=.returned (.tuple #[v,.int .i64 0])∧DVS w w' w.heap.size v es∧es.map (fun e=>(e.1.x,e.2.1.2))=qs∧(∀ e∈es,Lead (keyO o) e.2.1.2 e.2.1.1∧e.2.2=[])∧Below w.heap.size w w'
theorem divisors_ok (o:Int) (a:Option Addr) (c:Nat) (qs:List (PV × List Tm)) (w:World) (hr:RS w a (qs.map Prod.fst)) (hn:qs.length≤1000)
  (hk:∀ q∈qs,KP w q.1 q.2∧(∀ t∈q.2,LQ t.2 900000)∧q.1.n≤1000000∧q.2≠[]) :
  Calls Tryz.prog 12 #[.int .u8 o,.slice a qs.length c] w (DvsR w o qs):=by
 have HR:=qh hr;have HN:=qh hn;have HK:=qh hk;obtain⟨n,hnn⟩:∃ n,n=qs.length:=⟨_,rfl⟩;rw[← hnn];have HNN:=qh hnn;obtain⟨i1,hi,hz0,hz1,hz2⟩:=info_parts infoD;clear hr hn hk hnn;go_enter Tryz.func12,Tryz.ntmps12;go_wp2_with fail
 go_loopw [4,12] (fun v i wr=>∃ (j:Nat) (es:List DvE),j≤n∧i=.int .i64 j∧DVS w wr w.heap.size v es∧es.map (fun e=>(e.1.x,e.2.1.2))=qs.take j∧(∀ e∈es,Lead (keyO o) e.2.1.2 e.2.1.1∧e.2.2=[])∧Below w.heap.size w wr) (fun _ i _=>n-(intOf i).toNat)
 case atStart=>exact⟨0,[],Nat.zero_le _,rfl,DVS.nil _ _ _,rfl,fun e he=>(by cases he),Below.refl _ _⟩
 case round =>
  obtain⟨j,es,hj,rfl,hd,hm,hl,hb0⟩:=hrel;have HJ:=qh hj;have HD:=qh hd;have HM:=qh hm;have HL:=qh hl;have KG:=qh hb0
  have hel:es.length=j:=by
   have h1:=congrArg List.length hm;rw[List.length_map,List.length_take,← HNN.out] at h1;omega
  have HEL:=qh hel;clear hj hd hm hl hb0 hel
  by_cases hjn:j<n
  ·have HJN:=qh hjn
   have hjl:j<qs.length:=by rw[← HNN.out];exact hjn
   obtain⟨pb,po,rfl,hcs⟩:=(HR.out.below KG.out).ex (fun e=>by rw[List.map_eq_nil_iff] at e;rw[e] at hjl;simp at hjl);obtain⟨⟨p,D⟩,hp⟩:∃ p,qs[j]?=some p:=⟨_,List.getElem?_eq_getElem hjl⟩;have hc:=hcs j p (by rw[List.getElem?_map,hp];rfl);have HPJ:=qh hp;obtain⟨k1,k2,k3,k4⟩:=HK.out _ (List.mem_of_getElem? hp);have HKP:=qh k1;have LD:=qh (lead_k o p D wr (k1.below KG.out).any k2 k3 k4)
   have hlt:(j:Int)<(n:Int):=by omega
   have ek:IntKind.i64.wrap ((j:Int)+1)=(j:Int)+1:=IntWalk.i64_in _ (by have:=HN.out;have:=HNN.out;omega);have HEK:=qh ek;obtain⟨xa,xn,xc⟩:=p;change wr.cell? ⟨pb,po+j,none⟩=some (.slice xa xn xc) at hc;clear hjl hp hcs k1 k2 k3 k4 hjn;go_wp2_with fail
   with_reducible refine LD.out.mono ?_
   rintro e w1 ⟨y,⟨m,q⟩,rfl,hy,hld,hb⟩;have HY:=qh (hy.mono KG.out.size);have HLD:=qh hld;have HD:=qh (HD.out.below hb);have KG:=qk KG hb;clear hy hld hb LD hc ek
   go_upto_region 7 with (fail)
   obtain⟨V,hV⟩:∃ V,V=w1.alloc (.cells #[.bool y.t.s,.slice y.t.a y.t.n y.t.c,.bool y.l.s,.slice y.l.a y.l.n y.l.c,.int .u16 m.x,.int .u16 m.y,.int .u16 m.z,.int .u16 m.t] 32):=⟨_,rfl⟩
   have hbV:Below w1.heap.size w1 V:=by rw[hV];exact(Below.refl _ _).alloc (Nat.le_refl _) _
   have B8:=qh (show Bxs V w1.heap.size 32 [.bool y.t.s,.slice y.t.a y.t.n y.t.c,.bool y.l.s,.slice y.l.a y.l.n y.l.c,.int .u16 m.x,.int .u16 m.y,.int .u16 m.z,.int .u16 m.t] by rw[hV];exact Bxs.new w1 32 [.bool y.t.s,.slice y.t.a y.t.n y.t.c,.bool y.l.s,.slice y.l.a y.l.n y.l.c,.int .u16 m.x,.int .u16 m.y,.int .u16 m.z,.int .u16 m.t]);obtain⟨A8,hA8⟩:∃ A,A=w1.heap.size:=⟨_,rfl⟩;rw[← hV,← hA8];rw[← hA8] at B8;have HD:=qh (HD.out.below hbV);have HY:=qh (HY.out.below hbV);have KG:=qk KG hbV;have ek:=HEK.out;clear hV hbV hA8;have d80:=B8.out.cell (i:=0) rfl;have d81:=B8.out.cell (i:=1) rfl;have d82:=B8.out.cell (i:=2) rfl;have d83:=B8.out.cell (i:=3) rfl;have d84:=B8.out.cell (i:=4) rfl;have d85:=B8.out.cell (i:=5) rfl;have d86:=B8.out.cell (i:=6) rfl;have d87:=B8.out.cell (i:=7) rfl;have d8f:=B8.out.fz;have d8l:=B8.out.lt;go_wp2_with (first | (at_builtin;refine wpList_append_own _ rfl _ _ 47 rfl w.heap.size 52 i1 _ 1 8 Tryz.underlying47 hi hz0 hz1 hz2 rfl (by decide) _ _ _ rfl ((HD.out.row.alloc _).alloc _) ⟨V.heap.size+1,0,none⟩ 1 1 [ptr V.heap.size] rfl rfl ?c1 ?c2 ?c3 ?c4 ?c5 ?_))
   case c1 =>
    intro j u hj
    match j,hj with
    | 0,hj=>simp at hj;subst hj;simp[Addr.add]
   case c2 =>
    intro u hu;rw[List.mem_singleton.1 hu]
    rfl
   case c3=>rw[List.length_map,HEL.out];have:=HJN.out;have:=HNN.out;have:=HN.out;unfold maxLen;omega
   case c4=>rw[List.length_map,HEL.out];have:=HJN.out;have:=HNN.out;have:=HN.out;omega
   case c5=>have:=KG.out.size;simp;omega
   intro v' w5 hown hgrow _
   have HOK:=qh (show DvOK w (V.alloc (.cells #[.bool y.t.s,.slice y.t.a y.t.n y.t.c,.bool y.l.s,.slice y.l.a y.l.n y.l.c,.int .u16 m.x,.int .u16 m.y,.int .u16 m.z,.int .u16 m.t,.slice xa xn xc,.slice none 0 0] 58)) w.heap.size (⟨V.heap.size,y,⟨xa,xn,xc⟩,⟨none,0,0⟩⟩,(((m,q),D),[])) from
    ⟨KG.out.size,Bxs.new V 58 (dvC y m ⟨xa,xn,xc⟩ ⟨none,0,0⟩),HY.out.below ((Below.refl _ _).alloc (Nat.le_refl _) _),HKP.out,DP.void _ _⟩)
   have HD5:=qh (HD.out.push HOK.out rfl (show OD w5 w.heap.size v' (es.map (fun e=>e.1.b)++[V.heap.size]) by
    show w5.ownsRow _ _ _ _ _ _;rw[List.length_append,List.map_append,List.length_map,List.map_map]
    exact hown) hgrow)
   have KG5:=qh (show Below w.heap.size w w5 from((KG.out.alloc KG.out.size _).alloc (by have:=KG.out.size;simp;omega) _).grown hgrow (by have:=KG.out.size;simp;omega) fun k hk=>(HD.out.row.own hk.symm).1);clear hown hgrow;go_wp2_with fail
   go_roundw
   case rel =>
    refine⟨j+1,es++[(⟨V.heap.size,y,⟨xa,xn,xc⟩,⟨none,0,0⟩⟩,(((m,q),D),[]))],by have:=HJN.out;omega,rfl,HD5.out,?_,fun e he=>?_,KG5.out⟩
    ·rw[List.map_append,HM.out,List.take_add_one,HPJ.out]
     rfl
    ·rcases List.mem_append.1 he with he | he
     ·exact HL.out e he
     ·rw[List.mem_singleton.1 he];exact⟨HLD.out,rfl⟩
   case measure=>simp[intOf];have:=HJN.out;omega
  ·have hge:¬((j:Int)<(n:Int)):=by omega
   have HM:=qh (show es.map (fun e=>(e.1.x,e.2.1.2))=qs by rw[HM.out];exact List.take_of_length_le (by rw[← HNN.out];omega));clear hjn;go_wp2_with fail
   go_ret2;exact⟨_,es,rfl,HD.out,HM.out,HL.out,KG.out⟩
end Go.Proofs.YtjcmanikkcfnmaaGreat.Pol
