/-
  TwinPoly: a row of terms of its own, each term's lists of its own, one term more behind.
-/
import Derived.Test.YtgkkbkoiaccmfaaGreatDoorPzPN
set_option linter.unusedSimpArgs false
set_option linter.unusedVariables false
set_option maxHeartbeats 16000000
set_option maxRecDepth 100000
namespace Go.Proofs.YtgkkbkoiaccmfaaGreatDoor
namespace Pol
open Go.RowKit Go.Sort Limb
theorem VC (x:PV) (L:List TO) (k0:Nat) (w:World) (h:UU w x L) (hn:x.n<=1000000000) (hk:k0<=L.length) (hok:∀ i,i<k0->Ok1 L i) (hbad:k0<L.length->¬Ok1 L k0) :
  Calls Tryz.prog 54 #[x.v] w fun e w'=>e=.returned (.bool (decide (k0=L.length)))/\Below w.heap.size w w':=by
 obtain⟨xa,xn,xc⟩:=x;have HLN:=qh (show L.length=xn from h.2.1);have HN:=qh (show xn<=1000000000 from hn);have HR:=qh h;have HK0:=qh hk;have HOK:=qh hok;have HBAD:=qh hbad;have KG:=qh (Below.refl w.heap.size w);obtain⟨bv,hbv⟩:∃ b,b=decide (k0=L.length):=⟨_,rfl⟩;have HBV:=qh hbv;rw[<- hbv];clear h hk hok hbad hn hbv;change Calls Tryz.prog 54 #[.slice xa xn xc] w _;go_enter Tryz.func54,Tryz.ntmps54;go_wp2_with fail
 go_loopw [3] (fun i wr=>∃ k:Nat,k<=k0/\i=.int .i64 k/\Below w.heap.size w wr) (fun i _=>xn-(intOf i).toNat)
 case atStart=>exact⟨0,Nat.zero_le _,rfl,KG.o⟩
 case round =>
  obtain⟨k,hkk,rfl,hb0⟩:=hrel;have KG:=qh hb0;have HKK0:=qh hkk;clear hb0 hkk;by_cases hkl:k<xn
  ·have HKL:=qh hkl
   have hkl2:(k:Int)<(xn:Int):=by omega
   obtain⟨pb,po,rfl,hre⟩:=(HR.o.below KG.o).1.one (fun h=>by have h1:=HLN.o;rw[List.map_eq_nil_iff] at h;rw[h] at h1;simp at h1;omega);obtain⟨e,he⟩:∃ e,L[k]?=some e:=⟨_,List.getElem?_eq_getElem (by rw[HLN.o];exact hkl)⟩;obtain⟨t,o⟩:=e;have E1:=qh (hre k t (by rw[List.getElem?_map,he];rfl));have HRE:=qh hre;have HE:=qh he;have HTO:=qh ((HR.o.below KG.o).2.2.2.1 _ (List.mem_of_getElem? he));have HLF:=qh (show LF t.c 900000 from HR.o.2.2.2.2.2 _ (List.mem_of_getElem? he));have HS1:=qh (show t.m.Small from HR.o.2.2.2.2.1 _ (List.mem_of_getElem? he));clear hre he hkl
   cases o with
   | none =>
    have NF:=qh (show BF wr t.c from HTO.o)
    have HEND:=qh (show false=bv by
     rw[HBV.o];refine(zo fun hh=>?_).symm;obtain⟨e',q',h1,h2,-⟩:=HOK.o k (by rw[hh,HLN.o];exact HKL.o);rw[HE.o] at h1
     cases h1
     cases h2)
    clear HTO
    go_upto_region 4 with (fail)
    refine FS.Jb 34 [] (FS.JH [(5,FS.Sp.know (.bool false))])
     (fun w'=>Below wr.heap.size wr w') (by kernel_rfl) (by kernel_rfl) (by kernel_rfl)
     (FS.Jd (FS.Sp.Jl _ _) (FS.Jk)) (fun _ _ h hb=>h.trans (hb.mono h.size)) (zk.drew) ?_
    simp only[zu,zi,ze,zx,zy,zv,zw]
    iterate 5
     refine FS.Jc rfl rfl rfl ?_ (fun w' hw'=>?_) ?_;rotate_left
     ·have hb':=hw'.world;have hn:=HKL.o;obtain⟨hs0,hs1,hs2,hs3,hs4,hs5,hs6,hs7⟩:=(E1.o.below hb').eight;clear hw';go_simp
      try rfl
     conv=>arg 10;simp only[Act.put,zq0,zq1,zq2]
    refine FS.Je rfl rfl rfl (fun w' hw'=>?_) ?_
    ·have hb':=hw'.world;refine FS.Jn (FS.PK (.bool false)) ?_ (fun _ _ h=>h.post);go_simp;have CT:=(show Calls Tryz.prog 128 #[.agg #[.bool t.c.t.s,.slice t.c.t.a t.c.t.n t.c.t.c,.bool t.c.l.s,.slice t.c.l.a t.c.l.n t.c.l.c]] w' _ from rcheckVB (x:=t.c) (NF.o.below hb') HLF.o);refine CT.mono ?_;rintro e w'' ⟨rfl,hb⟩;exact⟨_,rfl,rfl,hb⟩
    rintro _ rfl
    conv=>arg 10;simp only[Act.put,zq0,zq1,zq2]
    iterate 2
     refine FS.Jc rfl rfl rfl ?_ (fun w' hw'=>?_) ?_;rotate_left
     ·have hb':=hw'.world;skip;clear hw';go_simp
      try rfl
     conv=>arg 10;simp only[Act.put,zq0,zq1,zq2]
    iterate 7
     refine FS.Qy (by rfl) rfl ?_
     conv=>arg 10;simp only[Act.put,zq0,zq1,zq2]
    iterate 2
     refine FS.Jc rfl rfl rfl ?_ (fun w' hw'=>?_) ?_;rotate_left
     ·have hb':=hw'.world;skip;clear hw';go_simp
      try rfl
     conv=>arg 10;simp only[Act.put,zq0,zq1,zq2]
    iterate 17
     refine FS.Qy (by rfl) rfl ?_
     conv=>arg 10;simp only[Act.put,zq0,zq1,zq2]
    refine FS.Jm (fun w101 hb hF=>?_);clear hF;have KG:=qk KG hb;clear hb;go_wp2_with fail
    go_ret
    exact⟨by rw[HEND.o] <;> rfl,KG.o⟩
   | some q =>
    have NF:=qh (show KF wr t.c q from HTO.o);by_cases hq:q=0
    ·have HSG:=qh (q_num.2 hq)
     have HEND:=qh (show false=bv by
      rw[HBV.o];refine(zo fun hh=>?_).symm;obtain⟨e',q',h1,h2,h3,-⟩:=HOK.o k (by rw[hh,HLN.o];exact HKL.o);rw[HE.o] at h1
      cases h1
      cases h2
      exact h3 hq)
     clear HTO hq
     go_upto_region 4 with (fail)
     refine FS.Jb 34 [] (FS.JH [(5,FS.Sp.know (.bool true)),(13,FS.Sp.know (.int .i64 0))])
      (fun w'=>Below wr.heap.size wr w') (by kernel_rfl) (by kernel_rfl) (by kernel_rfl)
      (FS.Jd (FS.Sp.Jl _ _) (FS.Jd (FS.Sp.Jl _ _) (FS.Jk))) (fun _ _ h hb=>h.trans (hb.mono h.size)) (zk.drew) ?_
     simp only[zu,zi,ze,zx,zy,zv,zw]
     iterate 5
      refine FS.Jc rfl rfl rfl ?_ (fun w' hw'=>?_) ?_;rotate_left
      ·have hb':=hw'.world;have hn:=HKL.o;obtain⟨hs0,hs1,hs2,hs3,hs4,hs5,hs6,hs7⟩:=(E1.o.below hb').eight;clear hw';go_simp
       try rfl
      conv=>arg 10;simp only[Act.put,zq0,zq1,zq2]
     refine FS.Je rfl rfl rfl (fun w' hw'=>?_) ?_
     ·have hb':=hw'.world;refine FS.Jn (FS.PK (.bool true)) ?_ (fun _ _ h=>h.post);go_simp;have CT:=(show Calls Tryz.prog 128 #[.agg #[.bool t.c.t.s,.slice t.c.t.a t.c.t.n t.c.t.c,.bool t.c.l.s,.slice t.c.l.a t.c.l.n t.c.l.c]] w' _ from VA (x:=t.c) (NF.o.below hb') HLF.o);refine CT.mono ?_;rintro e w'' ⟨rfl,hb⟩;exact⟨_,rfl,rfl,hb⟩
     rintro _ rfl
     conv=>arg 10;simp only[Act.put,zq0,zq1,zq2]
     iterate 2
      refine FS.Jc rfl rfl rfl ?_ (fun w' hw'=>?_) ?_;rotate_left
      ·have hb':=hw'.world;skip;clear hw';go_simp
       try rfl
      conv=>arg 10;simp only[Act.put,zq0,zq1,zq2]
     iterate 5
      refine FS.Jo (by rfl) rfl rfl ?_ (fun w' hw'=>?_) ?_;rotate_left
      ·have hb':=hw'.world;have hn:=HKL.o;obtain⟨hs0,hs1,hs2,hs3,hs4,hs5,hs6,hs7⟩:=(E1.o.below hb').eight;clear hw';go_simp
       try rfl
      conv=>arg 10;simp only[Act.put,zq0,zq1,zq2]
     refine FS.JG (by rfl) rfl rfl (fun w' hw'=>?_) ?_
     ·have hb':=hw'.world;refine FS.Jn (FS.PK (.int .i64 0)) ?_ (fun _ _ h=>h.post);go_simp;have CT:=(show Calls Tryz.prog 77 #[.agg #[.bool t.c.t.s,.slice t.c.t.a t.c.t.n t.c.t.c,.bool t.c.l.s,.slice t.c.l.a t.c.l.n t.c.l.c]] w' _ from YR (x:=t.c) (NF.o.below hb').any HLF.o);rw[show Ju q.num 0=0 from HSG.o] at CT;refine CT.mono ?_;rintro e w'' ⟨rfl,hb⟩;exact⟨_,rfl,rfl,hb⟩
     rintro _ rfl
     conv=>arg 10;simp only[Act.put,zq0,zq1,zq2]
     refine FS.Jo (by rfl) rfl rfl ?_ (fun w' hw'=>?_) ?_;rotate_left
     ·have hb':=hw'.world;skip;clear hw';go_simp
      try rfl
     conv=>arg 10;simp only[Act.put,zq0,zq1,zq2]
     iterate 2
      refine FS.Jc rfl rfl rfl ?_ (fun w' hw'=>?_) ?_;rotate_left
      ·have hb':=hw'.world;skip;clear hw';go_simp
       try rfl
      conv=>arg 10;simp only[Act.put,zq0,zq1,zq2]
     iterate 17
      refine FS.Qy (by rfl) rfl ?_
      conv=>arg 10;simp only[Act.put,zq0,zq1,zq2]
     refine FS.Jm (fun w102 hb hF=>?_);clear hF;have KG:=qk KG hb;clear hb;go_wp2_with fail
     go_ret;exact⟨by rw[HEND.o] <;> rfl,KG.o⟩
    ·obtain⟨sg,hsg⟩:∃ c,c=Ju q.num 0:=⟨_,rfl⟩;have HSG:=qh hsg.symm
     have gsg:(sg==0)=false:=by
      rw[hsg]
      simpa using fun h=>hq (q_num.1 h)
     have HQ:=qh hq;clear hsg hq HTO
     rcases Nat.eq_zero_or_pos k with h0 | h0
     ·have HKK:=qh (show k<k0 from Nat.lt_of_le_of_ne HKK0.o fun hh=>HBAD.o (by rw[<- hh,HLN.o];exact HKL.o) (by rw[<- hh];exact⟨_,q,HE.o,rfl,HQ.o,fun h=>by omega⟩))
      have gk2:¬(0<(k:Int)):=by omega
      have gk3:¬(0<k):=by omega
      clear h0
      go_upto_region 4 with (fail)
      refine FS.Jb 34 [] (FS.JH [(5,FS.Sp.know (.bool true)),(13,FS.Sp.know (.int .i64 sg))])
       (fun w'=>Below wr.heap.size wr w') (by kernel_rfl) (by kernel_rfl) (by kernel_rfl)
       (FS.Jd (FS.Sp.Jl _ _) (FS.Jd (FS.Sp.Jl _ _) (FS.Jk))) (fun _ _ h hb=>h.trans (hb.mono h.size)) (zk.drew) ?_
      simp only[zu,zi,ze,zx,zy,zv,zw]
      iterate 5
       refine FS.Jc rfl rfl rfl ?_ (fun w' hw'=>?_) ?_;rotate_left
       ·have hb':=hw'.world;have hn:=HKL.o;obtain⟨hs0,hs1,hs2,hs3,hs4,hs5,hs6,hs7⟩:=(E1.o.below hb').eight;clear hw';go_simp
        try rfl
       conv=>arg 10;simp only[Act.put,zq0,zq1,zq2]
      refine FS.Je rfl rfl rfl (fun w' hw'=>?_) ?_
      ·have hb':=hw'.world;refine FS.Jn (FS.PK (.bool true)) ?_ (fun _ _ h=>h.post);go_simp;have CT:=(show Calls Tryz.prog 128 #[.agg #[.bool t.c.t.s,.slice t.c.t.a t.c.t.n t.c.t.c,.bool t.c.l.s,.slice t.c.l.a t.c.l.n t.c.l.c]] w' _ from VA (x:=t.c) (NF.o.below hb') HLF.o);refine CT.mono ?_;rintro e w'' ⟨rfl,hb⟩;exact⟨_,rfl,rfl,hb⟩
      rintro _ rfl
      conv=>arg 10;simp only[Act.put,zq0,zq1,zq2]
      iterate 2
       refine FS.Jc rfl rfl rfl ?_ (fun w' hw'=>?_) ?_;rotate_left
       ·have hb':=hw'.world;skip;clear hw';go_simp
        try rfl
       conv=>arg 10;simp only[Act.put,zq0,zq1,zq2]
      iterate 5
       refine FS.Jo (by rfl) rfl rfl ?_ (fun w' hw'=>?_) ?_;rotate_left
       ·have hb':=hw'.world;have hn:=HKL.o;obtain⟨hs0,hs1,hs2,hs3,hs4,hs5,hs6,hs7⟩:=(E1.o.below hb').eight;clear hw';go_simp
        try rfl
       conv=>arg 10;simp only[Act.put,zq0,zq1,zq2]
      refine FS.JG (by rfl) rfl rfl (fun w' hw'=>?_) ?_
      ·have hb':=hw'.world;refine FS.Jn (FS.PK (.int .i64 sg)) ?_ (fun _ _ h=>h.post);go_simp;have CT:=(show Calls Tryz.prog 77 #[.agg #[.bool t.c.t.s,.slice t.c.t.a t.c.t.n t.c.t.c,.bool t.c.l.s,.slice t.c.l.a t.c.l.n t.c.l.c]] w' _ from YR (x:=t.c) (NF.o.below hb').any HLF.o);rw[show Ju q.num 0=sg from HSG.o] at CT;refine CT.mono ?_;rintro e w'' ⟨rfl,hb⟩;exact⟨_,rfl,rfl,hb⟩
      rintro _ rfl
      conv=>arg 10;simp only[Act.put,zq0,zq1,zq2]
      refine FS.Jo (by rfl) rfl rfl ?_ (fun w' hw'=>?_) ?_;rotate_left
      ·have hb':=hw'.world;skip;clear hw';go_simp
       try rfl
      conv=>arg 10;simp only[Act.put,zq0,zq1,zq2]
      iterate 2
       refine FS.Jc rfl rfl rfl ?_ (fun w' hw'=>?_) ?_;rotate_left
       ·have hb':=hw'.world;skip;clear hw';go_simp
        try rfl
       conv=>arg 10;simp only[Act.put,zq0,zq1,zq2]
      iterate 3
       refine FS.Jo (by rfl) rfl rfl ?_ (fun w' hw'=>?_) ?_;rotate_left
       ·have hb':=hw'.world;skip;clear hw';go_simp
        try rfl
       conv=>arg 10;simp only[Act.put,zq0,zq1,zq2]
      iterate 13
       refine FS.Qy (by rfl) rfl ?_
       conv=>arg 10;simp only[Act.put,zq0,zq1,zq2]
      refine FS.Jo (by rfl) rfl rfl ?_ (fun w' hw'=>?_) ?_;rotate_left
      ·have hb':=hw'.world;skip;clear hw';go_simp
       try rfl
      conv=>arg 10;simp only[Act.put,zq0,zq1,zq2]
      refine FS.Jm (fun w103 hb hF=>?_);clear hF;have KG:=qk KG hb;clear hb;have ek1:IntKind.i64.wrap ((k:Int)+1)=(k:Int)+1:=IntWalk.i64_in _ (by have:=HKL.o;have:=HN.o;omega);go_wp2_with fail
      go_roundw
      case rel=>exact⟨k+1,by have:=HKK.o;omega,rfl,KG.o⟩
      case measure=>simp[intOf];have:=HKL.o;omega
     ·obtain⟨j,hj⟩:∃ j,k=j+1:=⟨k-1,by omega⟩
      have gk2:0<(k:Int):=by omega
      have gk3:0<k:=by omega
      have EJW:=qh (show IntKind.i64.wrap ((k:Int)-1)=(j:Int) by have:=HKL.o;have:=HN.o;rw[IntWalk.i64_in _ (by omega)];omega);have HJN:=qh (show j<xn by have:=HKL.o;omega);have HJK:=qh hj;obtain⟨d,hd⟩:∃ d,L[j]?=some d:=⟨_,List.getElem?_eq_getElem (by rw[HLN.o];exact HJN.o)⟩;obtain⟨tj,oj⟩:=d;have HD:=qh hd;have EJ:=qh (HRE.o j tj (by rw[List.getElem?_map,hd];rfl));have HS2:=qh (show tj.m.Small from HR.o.2.2.2.2.1 _ (List.mem_of_getElem? hd));obtain⟨fv,hfv⟩:∃ c,c=Mono.Ju (Zm 0 tj.m) (Zm 0 t.m):=⟨_,rfl⟩;have HFV:=qh hfv.symm;clear hd h0 hj;by_cases hlt:t.m.lt tj.m
      ·have gf2:¬(fv<=0):=by rw[hfv];exact Int.not_le.2 (jct.2 ((VB HS1.o HS2.o).1 hlt))
       have HKK:=qh (show k<k0 from Nat.lt_of_le_of_ne HKK0.o fun hh=>HBAD.o (by rw[<- hh,HLN.o];exact HKL.o) (by rw[<- hh];exact⟨_,q,HE.o,rfl,HQ.o,fun _=>⟨_,by rw[HJK.o];exact HD.o,hlt⟩⟩));clear hfv hlt
       go_upto_region 4 with (fail)
       refine FS.Jb 34 [] (FS.JH [(5,FS.Sp.know (.bool true)),(13,FS.Sp.know (.int .i64 sg)),(31,FS.Sp.know (.int .i64 fv))])
        (fun w'=>Below wr.heap.size wr w') (by kernel_rfl) (by kernel_rfl) (by kernel_rfl)
        (FS.Jd (FS.Sp.Jl _ _) (FS.Jd (FS.Sp.Jl _ _) (FS.Jd (FS.Sp.Jl _ _) (FS.Jk)))) (fun _ _ h hb=>h.trans (hb.mono h.size)) (zk.drew) ?_
       simp only[zu,zi,ze,zx,zy,zv,zw]
       iterate 5
        refine FS.Jc rfl rfl rfl ?_ (fun w' hw'=>?_) ?_;rotate_left
        ·have hb':=hw'.world;have hn:=HKL.o;obtain⟨hs0,hs1,hs2,hs3,hs4,hs5,hs6,hs7⟩:=(E1.o.below hb').eight;clear hw';go_simp
         try rfl
        conv=>arg 10;simp only[Act.put,zq0,zq1,zq2]
       refine FS.Je rfl rfl rfl (fun w' hw'=>?_) ?_
       ·have hb':=hw'.world;refine FS.Jn (FS.PK (.bool true)) ?_ (fun _ _ h=>h.post);go_simp;have CT:=(show Calls Tryz.prog 128 #[.agg #[.bool t.c.t.s,.slice t.c.t.a t.c.t.n t.c.t.c,.bool t.c.l.s,.slice t.c.l.a t.c.l.n t.c.l.c]] w' _ from VA (x:=t.c) (NF.o.below hb') HLF.o);refine CT.mono ?_;rintro e w'' ⟨rfl,hb⟩;exact⟨_,rfl,rfl,hb⟩
       rintro _ rfl
       conv=>arg 10;simp only[Act.put,zq0,zq1,zq2]
       iterate 2
        refine FS.Jc rfl rfl rfl ?_ (fun w' hw'=>?_) ?_;rotate_left
        ·have hb':=hw'.world;skip;clear hw';go_simp
         try rfl
        conv=>arg 10;simp only[Act.put,zq0,zq1,zq2]
       iterate 5
        refine FS.Jo (by rfl) rfl rfl ?_ (fun w' hw'=>?_) ?_;rotate_left
        ·have hb':=hw'.world;have hn:=HKL.o;obtain⟨hs0,hs1,hs2,hs3,hs4,hs5,hs6,hs7⟩:=(E1.o.below hb').eight;clear hw';go_simp
         try rfl
        conv=>arg 10;simp only[Act.put,zq0,zq1,zq2]
       refine FS.JG (by rfl) rfl rfl (fun w' hw'=>?_) ?_
       ·have hb':=hw'.world;refine FS.Jn (FS.PK (.int .i64 sg)) ?_ (fun _ _ h=>h.post);go_simp;have CT:=(show Calls Tryz.prog 77 #[.agg #[.bool t.c.t.s,.slice t.c.t.a t.c.t.n t.c.t.c,.bool t.c.l.s,.slice t.c.l.a t.c.l.n t.c.l.c]] w' _ from YR (x:=t.c) (NF.o.below hb').any HLF.o);rw[show Ju q.num 0=sg from HSG.o] at CT;refine CT.mono ?_;rintro e w'' ⟨rfl,hb⟩;exact⟨_,rfl,rfl,hb⟩
       rintro _ rfl
       conv=>arg 10;simp only[Act.put,zq0,zq1,zq2]
       refine FS.Jo (by rfl) rfl rfl ?_ (fun w' hw'=>?_) ?_;rotate_left
       ·have hb':=hw'.world;skip;clear hw';go_simp
        try rfl
       conv=>arg 10;simp only[Act.put,zq0,zq1,zq2]
       iterate 2
        refine FS.Jc rfl rfl rfl ?_ (fun w' hw'=>?_) ?_;rotate_left
        ·have hb':=hw'.world;skip;clear hw';go_simp
         try rfl
        conv=>arg 10;simp only[Act.put,zq0,zq1,zq2]
       iterate 14
        refine FS.Jo (by rfl) rfl rfl ?_ (fun w' hw'=>?_) ?_;rotate_left
        ·have hb':=hw'.world;have hj:=EJW.o;have hn:=HJN.o;obtain⟨hs0,hs1,hs2,hs3,hs4,hs5,hs6,hs7⟩:=(EJ.o.below hb').eight;have hn:=HKL.o;obtain⟨hs0,hs1,hs2,hs3,hs4,hs5,hs6,hs7⟩:=(E1.o.below hb').eight;clear hw';go_simp
         try rfl
        conv=>arg 10;simp only[Act.put,zq0,zq1,zq2]
       refine FS.JG (by rfl) rfl rfl (fun w' hw'=>?_) ?_
       ·have hb':=hw'.world;refine FS.Jn (FS.PK (.int .i64 fv)) ?_ (fun _ _ h=>h.post);go_simp;have CT:=(show Calls Tryz.prog 151 #[.int .u8 0,.agg #[.int .u16 tj.m.x,.int .u16 tj.m.y,.int .u16 tj.m.z,.int .u16 tj.m.t],.agg #[.int .u16 t.m.x,.int .u16 t.m.y,.int .u16 t.m.z,.int .u16 t.m.t]] w' _ from jd7 0 tj.m t.m w' HS2.o HS1.o);rw[show Mono.Ju (Zm 0 tj.m) (Zm 0 t.m)=fv from HFV.o] at CT;refine CT.mono ?_;rintro e w'' ⟨rfl,hb⟩;exact⟨_,rfl,rfl,hb⟩
       rintro _ rfl
       conv=>arg 10;simp only[Act.put,zq0,zq1,zq2]
       iterate 2
        refine FS.Jo (by rfl) rfl rfl ?_ (fun w' hw'=>?_) ?_;rotate_left
        ·have hb':=hw'.world;skip;clear hw';go_simp
         try rfl
        conv=>arg 10;simp only[Act.put,zq0,zq1,zq2]
       refine FS.Jm (fun w104 hb hF=>?_);clear hF;have KG:=qk KG hb;clear hb;have ek1:IntKind.i64.wrap ((k:Int)+1)=(k:Int)+1:=IntWalk.i64_in _ (by have:=HKL.o;have:=HN.o;omega);go_wp2_with fail
       go_roundw
       case rel=>exact⟨k+1,by have:=HKK.o;omega,rfl,KG.o⟩
       case measure=>simp[intOf];have:=HKL.o;omega
      ·have gf2:fv<=0:=by rw[hfv];exact Int.not_lt.1 fun h=>hlt ((VB HS1.o HS2.o).2 (jct.1 h))
       have HEND:=qh (show false=bv by
        rw[HBV.o];refine(zo fun hh=>?_).symm;obtain⟨e',q',h1,h2,h3,h4⟩:=HOK.o k (by rw[hh,HLN.o];exact HKL.o);obtain⟨d',h5,h6⟩:=h4 (by have:=HJK.o;omega);rw[HE.o] at h1
        cases h1
        rw[show k-1=j by have:=HJK.o;omega,HD.o] at h5
        cases h5
        exact hlt h6)
       clear hfv hlt
       go_upto_region 4 with (fail)
       refine FS.Jb 34 [] (FS.JH [(5,FS.Sp.know (.bool true)),(13,FS.Sp.know (.int .i64 sg)),(31,FS.Sp.know (.int .i64 fv))])
        (fun w'=>Below wr.heap.size wr w') (by kernel_rfl) (by kernel_rfl) (by kernel_rfl)
        (FS.Jd (FS.Sp.Jl _ _) (FS.Jd (FS.Sp.Jl _ _) (FS.Jd (FS.Sp.Jl _ _) (FS.Jk)))) (fun _ _ h hb=>h.trans (hb.mono h.size)) (zk.drew) ?_
       simp only[zu,zi,ze,zx,zy,zv,zw]
       iterate 5
        refine FS.Jc rfl rfl rfl ?_ (fun w' hw'=>?_) ?_;rotate_left
        ·have hb':=hw'.world;have hn:=HKL.o;obtain⟨hs0,hs1,hs2,hs3,hs4,hs5,hs6,hs7⟩:=(E1.o.below hb').eight;clear hw';go_simp
         try rfl
        conv=>arg 10;simp only[Act.put,zq0,zq1,zq2]
       refine FS.Je rfl rfl rfl (fun w' hw'=>?_) ?_
       ·have hb':=hw'.world;refine FS.Jn (FS.PK (.bool true)) ?_ (fun _ _ h=>h.post);go_simp;have CT:=(show Calls Tryz.prog 128 #[.agg #[.bool t.c.t.s,.slice t.c.t.a t.c.t.n t.c.t.c,.bool t.c.l.s,.slice t.c.l.a t.c.l.n t.c.l.c]] w' _ from VA (x:=t.c) (NF.o.below hb') HLF.o);refine CT.mono ?_;rintro e w'' ⟨rfl,hb⟩;exact⟨_,rfl,rfl,hb⟩
       rintro _ rfl
       conv=>arg 10;simp only[Act.put,zq0,zq1,zq2]
       iterate 2
        refine FS.Jc rfl rfl rfl ?_ (fun w' hw'=>?_) ?_;rotate_left
        ·have hb':=hw'.world;skip;clear hw';go_simp
         try rfl
        conv=>arg 10;simp only[Act.put,zq0,zq1,zq2]
       iterate 5
        refine FS.Jo (by rfl) rfl rfl ?_ (fun w' hw'=>?_) ?_;rotate_left
        ·have hb':=hw'.world;have hn:=HKL.o;obtain⟨hs0,hs1,hs2,hs3,hs4,hs5,hs6,hs7⟩:=(E1.o.below hb').eight;clear hw';go_simp
         try rfl
        conv=>arg 10;simp only[Act.put,zq0,zq1,zq2]
       refine FS.JG (by rfl) rfl rfl (fun w' hw'=>?_) ?_
       ·have hb':=hw'.world;refine FS.Jn (FS.PK (.int .i64 sg)) ?_ (fun _ _ h=>h.post);go_simp;have CT:=(show Calls Tryz.prog 77 #[.agg #[.bool t.c.t.s,.slice t.c.t.a t.c.t.n t.c.t.c,.bool t.c.l.s,.slice t.c.l.a t.c.l.n t.c.l.c]] w' _ from YR (x:=t.c) (NF.o.below hb').any HLF.o);rw[show Ju q.num 0=sg from HSG.o] at CT;refine CT.mono ?_;rintro e w'' ⟨rfl,hb⟩;exact⟨_,rfl,rfl,hb⟩
       rintro _ rfl
       conv=>arg 10;simp only[Act.put,zq0,zq1,zq2]
       refine FS.Jo (by rfl) rfl rfl ?_ (fun w' hw'=>?_) ?_;rotate_left
       ·have hb':=hw'.world;skip;clear hw';go_simp
        try rfl
       conv=>arg 10;simp only[Act.put,zq0,zq1,zq2]
       iterate 2
        refine FS.Jc rfl rfl rfl ?_ (fun w' hw'=>?_) ?_;rotate_left
        ·have hb':=hw'.world;skip;clear hw';go_simp
         try rfl
        conv=>arg 10;simp only[Act.put,zq0,zq1,zq2]
       iterate 14
        refine FS.Jo (by rfl) rfl rfl ?_ (fun w' hw'=>?_) ?_;rotate_left
        ·have hb':=hw'.world;have hj:=EJW.o;have hn:=HJN.o;obtain⟨hs0,hs1,hs2,hs3,hs4,hs5,hs6,hs7⟩:=(EJ.o.below hb').eight;have hn:=HKL.o;obtain⟨hs0,hs1,hs2,hs3,hs4,hs5,hs6,hs7⟩:=(E1.o.below hb').eight;clear hw';go_simp
         try rfl
        conv=>arg 10;simp only[Act.put,zq0,zq1,zq2]
       refine FS.JG (by rfl) rfl rfl (fun w' hw'=>?_) ?_
       ·have hb':=hw'.world;refine FS.Jn (FS.PK (.int .i64 fv)) ?_ (fun _ _ h=>h.post);go_simp;have CT:=(show Calls Tryz.prog 151 #[.int .u8 0,.agg #[.int .u16 tj.m.x,.int .u16 tj.m.y,.int .u16 tj.m.z,.int .u16 tj.m.t],.agg #[.int .u16 t.m.x,.int .u16 t.m.y,.int .u16 t.m.z,.int .u16 t.m.t]] w' _ from jd7 0 tj.m t.m w' HS2.o HS1.o);rw[show Mono.Ju (Zm 0 tj.m) (Zm 0 t.m)=fv from HFV.o] at CT;refine CT.mono ?_;rintro e w'' ⟨rfl,hb⟩;exact⟨_,rfl,rfl,hb⟩
       rintro _ rfl
       conv=>arg 10;simp only[Act.put,zq0,zq1,zq2]
       iterate 2
        refine FS.Jo (by rfl) rfl rfl ?_ (fun w' hw'=>?_) ?_;rotate_left
        ·have hb':=hw'.world;skip;clear hw';go_simp
         try rfl
        conv=>arg 10;simp only[Act.put,zq0,zq1,zq2]
       refine FS.Jm (fun w105 hb hF=>?_);clear hF;have KG:=qk KG hb;clear hb;go_wp2_with fail
       go_ret;exact⟨by rw[HEND.o] <;> rfl,KG.o⟩
  ·have HEND:=qh (show true=bv by
    rw[HBV.o]
    exact(decide_eq_true (by have:=HKK0.o;have:=HK0.o;have:=HLN.o;omega)).symm)
   have hge:¬((k:Int)<(xn:Int)):=by omega
   clear hkl;go_wp2_with fail
   go_ret;exact⟨by rw[HEND.o] <;> rfl,KG.o⟩
theorem ZH {w:World} {x:PV} {P:List Tm} (h:KP w x P) (hq:∀ t∈P,LQ t.2 900000) (hn:x.n<=1000000000):Calls Tryz.prog 54 #[x.v] w fun e w'=>e=.returned (.bool true)/\Below w.heap.size w w':=by
 obtain⟨K,h1,h2,h3,h4⟩:=h.ex
 have hR:UU w x (K.map fun e=>(e.1,some e.2)):=by
  refine⟨by rw[List.map_map];exact h1,by rw[List.length_map];exact h2,h.le,fun e he=>?_,fun e he=>?_,fun e he=>?_⟩
  ·obtain⟨f,hf,rfl⟩:=List.mem_map.1 he;exact h3 f hf
  ·obtain⟨f,hf,rfl⟩:=List.mem_map.1 he;exact h.small (tm f) (by rw[<- h4];exact List.mem_map_of_mem hf)
  ·obtain⟨f,hf,rfl⟩:=List.mem_map.1 he;exact(h3 f hf).len (hq (tm f) (by rw[<- h4];exact List.mem_map_of_mem hf)) zj
 have hok:okP (K.map fun e=>(e.1,some e.2)):=by
  refine⟨P,?_,h.canon⟩;rw[Zd];refine⟨by rw[<- h4,List.length_map,List.length_map],fun i e he=>?_⟩;rw[List.getElem?_map] at he
  cases hk:K[i]? with
  | none=>rw[hk] at he;cases he
  | some f =>
   rw[hk] at he
   obtain rfl:(f.1,some f.2)=e:=by simpa using he
   exact⟨f.2,rfl,by rw[<- h4,List.getElem?_map,hk];rfl⟩
 have g:=VC x _ (K.map fun e=>(e.1,some e.2)).length w hR hn zj ((Vt _).1 hok) (fun h=>absurd h (by omega));rwa [decide_eq_true rfl] at g
theorem KC {w:World} {x:PV} (h:BP w x) (hn:x.n<=1000000000):Calls Tryz.prog 54 #[x.v] w fun e w'=>e=.returned (.bool false)/\Below w.heap.size w w':=by
 obtain⟨L,hR,hk⟩:=h;rw[Vt] at hk
 have first:∀ n,n<=L.length->(∀ i,i<n->Ok1 L i)\/∃ k0,k0<n/\(∀ i,i<k0->Ok1 L i)/\¬Ok1 L k0:=by
  intro n
  induction n with
  | zero=>exact fun _=>Or.inl fun i hi=>by omega
  | succ n ih =>
   intro hn
   rcases ih (by omega) with h1 | ⟨k0,h1,h2⟩
   ·by_cases h2:Ok1 L n
    ·exact Or.inl fun i hi=>(Nat.lt_or_eq_of_le (Nat.le_of_lt_succ hi)).elim (h1 i) (fun e=>e▸h2)
    ·exact Or.inr ⟨n,by omega,h1,h2⟩
   ·exact Or.inr ⟨k0,by omega,h2⟩
 rcases first L.length zj with h1 | ⟨k0,h1,h2,h3⟩
 ·exact absurd h1 hk
 ·have g:=VC x L k0 w hR hn (Nat.le_of_lt h1) h2 (fun _=>h3);rwa [zo (by omega)] at g
theorem rfit_k {w:World} {x:PV} {P:List Tm} (h:KP w x P) (hq:∀ t∈P,LQ t.2 900000) (hn:x.n<=1000000000):Calls Tryz.prog 79 #[x.v] w fun e w'=>e=.returned x.v/\Below w.heap.size w w':=by
 have C:=qh (ZH h hq hn);go_enter Tryz.func79,Tryz.ntmps79;go_wp2_with fail
 refine C.o.mono ?_;rintro e w1 ⟨rfl,hb⟩;have HB:=qh hb;clear hb C;go_wp2_with fail
 go_ret;exact⟨rfl,HB.o⟩
theorem rfit_b {w:World} {x:PV} (h:BP w x) (hn:x.n<=1000000000):Calls Tryz.prog 79 #[x.v] w fun e w'=>e=.returned (.slice none 0 0)/\Below w.heap.size w w':=by
 have C:=qh (KC h hn);go_enter Tryz.func79,Tryz.ntmps79;go_wp2_with fail
 refine C.o.mono ?_;rintro e w1 ⟨rfl,hb⟩;have HB:=qh hb;clear hb C;go_wp2_with fail
 go_ret;exact⟨rfl,HB.o⟩
structure RS (w:World) (a:Option Addr) (ps:List PV):Prop where
 ex:ps≠[]->∃ b off,a=some ⟨b,off,none⟩/\∀ i p,ps[i]?=some p->w.cell? ⟨b,off+i,none⟩=some p.v
theorem RS.nil (w:World) (a:Option Addr):RS w a []:=⟨fun h=>absurd rfl h⟩
def pw (l:Nat->Rat) (m:Mo) (q:Rat):Nat->Rat
 | 0=>q
 | i+1=>pw l m q i*l i ^ m.at i
theorem pw_four (l:Nat->Rat) (m:Mo) (q:Rat):pw l m q 4=q*atM l m:=by
 show q*l 0 ^ m.x*l 1 ^ m.y*l 2 ^ m.z*l 3 ^ m.t=_;unfold atM;grind
theorem pw_lq {l:Nat->Rat} {m:Mo} {q:Rat} {kp kl E:Nat} (hq:LQ q kp) (hl:∀ i,LQ (l i) kl) (hm:∀ i,m.at i<=E):∀ i,LQ (pw l m q i) (kp+i*(E*kl+1))
 | 0=>hq.up (by omega)
 | i+1=>by
  have h1:=(Vz (hl i) (m.at i)).up (Nat.add_le_add_right (Nat.mul_le_mul_right kl (hm i)) 1);exact((pw_lq hq hl hm i).ls.mul h1.ls).lq (by rw[Nat.add_mul];omega) (by rw[Nat.add_mul];omega)
theorem ev_nq {f:Mo->Rat} {k:Nat}:∀ {L:List Tm},(∀ t∈L,LQ (t.2*f t.1) k)->ev L f=0\/∃ j,0<j/\j<=L.length/\NQ (ev L f) j k
 | [],_=>Or.inl rfl
 | t :: r,h=>by
  have h1:=NQ.one (h t (List.mem_cons_self ..));rw[Jq]
  rcases ev_nq (L:=r) (f:=f) fun u hu=>h u (List.mem_cons_of_mem _ hu) with h2 | ⟨j,h3,h4,h5⟩
  ·rw[h2,Rat.add_zero];exact Or.inr ⟨1,by omega,by rw[List.length_cons];omega,h1⟩
  ·exact Or.inr ⟨1+j,by omega,by rw[List.length_cons];omega,h1.add h5 (by omega) h3⟩
theorem at_one (m:Mo) (i:Nat) (E:Nat) (h:m.le E):m.at i<=E:=by
 obtain⟨h1,h2,h3,h4⟩:=h;unfold Mo.at;split
 ·exact h1
 ·split
  ·exact h2
  ·split
   ·exact h3
   ·exact h4
def FB (w:World) (x:FV) (ok:Bool):Prop:=match ok with
 | true=>∃ q,KF w x q
 | false=>BF w x
structure B4 (w:World) (x0 x1 x2 x3:FV) (ok:Nat->Bool):Prop where
 k0:FB w x0 (ok 0)
 k1:FB w x1 (ok 1)
 k2:FB w x2 (ok 2)
 k3:FB w x3 (ok 3)
 l0:LF x0 900000
 l1:LF x1 900000
 l2:LF x2 900000
 l3:LF x3 900000
theorem mul_b1 (x y:PV) (w:World) (hx:BP w x) (hn:x.n<=1000000000):Calls Tryz.prog 51 #[x.v,y.v] w fun e w'=>e=.returned (.tuple #[.slice none 0 0,.int .i64 1])/\Below w.heap.size w w':=by
 have C1:=qh (Vu hx hn);obtain⟨xa,xn,xc⟩:=x;obtain⟨ya,yn,yc⟩:=y;change Calls Tryz.prog 51 #[.slice xa xn xc,.slice ya yn yc] w _;clear hx hn;go_enter Tryz.func51,Tryz.ntmps51;go_wp2_with fail
 with_reducible refine C1.o.mono ?_
 rintro e w1 ⟨rfl,hb⟩;have KG:=qh hb;clear hb C1;go_wp2_with fail
 go_ret2;exact⟨rfl,KG.o⟩
theorem mul_b2 (x y:PV) (P:List Tm) (w:World) (hx:KP w x P) (hp:∀ t∈P,LQ t.2 900000) (hn:x.n<=1000000000) (hy:BP w y) (hm:y.n<=1000000000):Calls Tryz.prog 51 #[x.v,y.v] w fun e w'=>e=.returned (.tuple #[.slice none 0 0,.int .i64 1])/\Below w.heap.size w w':=by
 have C1:=qh (Ya hx hp hn);have HY:=qh hy;have HM:=qh hm;obtain⟨xa,xn,xc⟩:=x;obtain⟨ya,yn,yc⟩:=y;change Calls Tryz.prog 51 #[.slice xa xn xc,.slice ya yn yc] w _;clear hx hp hn hy hm;go_enter Tryz.func51,Tryz.ntmps51;go_wp2_with fail
 with_reducible refine C1.o.mono ?_
 rintro e w1 ⟨rfl,hb⟩;have KG:=qh hb;have C2:=qh (Vu (HY.o.below hb) HM.o);clear hb C1;go_wp2_with fail
 with_reducible refine C2.o.mono ?_
 rintro e w2 ⟨rfl,hb⟩;have KG:=qk KG hb;clear hb C2;go_wp2_with fail
 go_ret2;exact⟨rfl,KG.o⟩
theorem DF.only {w w':World} {lo c:Nat} {x:FV} {q:Rat} {es:Array MapEntry} {k:Nat} (h:DF w lo x q) (ho:Only c w w') (hc:w.heap[c]?=some (.map es k)):DF w' lo x q :=
 h.kept fun b hb=>by
  obtain⟨cur,h1⟩:=DF.blkc h hb
  exact ho.2.2.2.2 b (lt_of_block h1) fun e=>by rw[e,hc] at h1;cases h1
theorem MK.only {w w':World} {lo b c:Nat} {L:List TE} {es:Array MapEntry} {k:Nat} (h:MK w lo b L) (ho:Only c w w') (hc:w.heap[c]?=some (.map es k)) (hne:b≠c):MK w' lo b L :=
 ⟨(ho.2.2.2.2 b h.lt hne).trans h.blk,h.ge,fun e he=>DF.only (h.df e he) ho hc,h.ap,h.keys,h.small⟩
theorem Ke (A:List Tm) (t:Tm) (i k:Nat):jdw (A++[t]) i k=jdw A i k++(if t.1.at i=k then [(t.1.cut i,t.2)] else []):=by
 unfold jdw;rw[List.filter_append,List.map_append]
 congr 1
 by_cases h:t.1.at i=k
 ·rw[if_pos h,List.filter_cons_of_pos (by simpa using h)];rfl
 ·rw[if_neg h,List.filter_cons_of_neg (by simpa using h)];rfl
structure MR (w:World) (lo g d i:Nat) (A:List Tm) (bs:Nat->Option Nat) (Ms:Nat->List TE):Prop where
 row:w.rowIs g 123 (d+1) (fun k=>.map (bs k))
 nil:∀ k,k<=d->bs k=none->jdw A i k=[]
 got:∀ k b,k<=d->bs k=some b->MK w lo b (Ms k)/\∀ f,ev ((Ms k).map tm) f=ev (jdw A i k) f
 inj:∀ k j b,k<=d->j<=d->bs k=some b->bs j=some b->k=j
theorem MR.add {w w':World} {lo g d i b:Nat} {A:List Tm} {bs:Nat->Option Nat} {Ms:Nat->List TE} (h:MR w lo g d i A bs Ms) {m:Mo} {q:Rat} (hk:m.at i<=d) (hb:bs (m.at i)=some b) (ho:Only b w w')
  {L':List TE} (hM:MK w' lo b L') (hL:L'.map tm=K8 (m.cut i) q ((Ms (m.at i)).map tm)):MR w' lo g d i (A++[(m,q)]) bs (fun k=>if k=m.at i then L' else Ms k) where
 row:=h.row.of_block (ho.2.2.2.2 g h.row.lt fun e=>by
  obtain⟨c,h1,_⟩:=h.row;rw[e,(h.got _ b hk hb).1.blk] at h1
  cases h1)
 nil k hkd h0:=by
  rw[Ke,h.nil k hkd h0,if_neg fun e=>by rw[<- e,show((m,q):Tm).1.at i=m.at i from rfl,hb] at h0;cases h0];rfl
 got k c hkd h1:=by
  by_cases e:k=m.at i
  ·subst e;obtain rfl:b=c:=Option.some.inj (hb.symm.trans h1);rw[if_pos rfl];refine⟨hM,fun f=>?_⟩;rw[hL,K9,(h.got _ b hk hb).2 f,Ke,if_pos rfl,QU];show _=_+(q*f (m.cut i)+0);grind
  ·rw[if_neg e]
   have hne:c≠b:=fun hc=>e (h.inj k _ b hkd hk (by rw[h1,hc]) hb)
   refine⟨MK.only (h.got k c hkd h1).1 ho (h.got _ b hk hb).1.blk hne,fun f=>?_⟩;rw[Ke,if_neg fun hc=>e hc.symm,List.append_nil];exact(h.got k c hkd h1).2 f
 inj:=h.inj
structure PC (P:List Tm) (n k e:Nat):Prop where
 c:Canon P
 b:PB P n k e
theorem PC.up {P:List Tm} {n k e n' k' e':Nat} (h:PC P n k e) (hn:n<=n') (hk:k<=k') (he:e<=e'):PC P n' k' e':=⟨h.c,h.b.up hn hk he⟩
theorem PC.lq {P:List Tm} {n k e m:Nat} (h:PC P n k e) (hm:k<=m):∀ t∈P,LQ t.2 m:=fun t ht=>(h.b.lq t ht).up hm
theorem PC.nil (n k e:Nat):PC [] n k e:=⟨Canon.nil,PB.nil n k e⟩
theorem PC.add {P Q:List Tm} {n1 k1 e1 n2 k2 e2:Nat} (h1:PC P n1 k1 e1) (h2:PC Q n2 k2 e2) (k e:Nat) (a:k1<=k) (b:k2<=k) (c:e1<=e) (d:e2<=e):PC (Qf P Q) (n1+n2) (2*k+1) e :=
 ⟨JN _ _,PB.add h1.c h2.c (h1.b.up zj a c) (h2.b.up zj b d)⟩
theorem PC.mul {P Q:List Tm} {n1 k1 e1 n2 k2 e2:Nat} (h1:PC P n1 k1 e1) (h2:PC Q n2 k2 e2):PC (Xt P Q) (n1*n2) (n1*(k1+k2+1)) (e1+e2):=⟨Xc _ _,PB.mulC h2.c h1.b h2.b⟩
theorem PC.scale {P:List Tm} {n k e k2:Nat} {c:Rat} (h:PC P n k e) (hc:LQ c k2):PC (Qn c P) n (k+k2) e:=⟨Xr _ _,PB.scale h.c h.b hc⟩
theorem lq_minus:LQ (-1:Rat) 3:=by rw[show((-1:Rat))=((-1:Int):Rat) by decide +kernel];exact jba
theorem PC.sub {P Q:List Tm} {n1 k1 e1 n2 k2 e2:Nat} (h1:PC P n1 k1 e1) (h2:PC Q n2 k2 e2) (k e:Nat) (a:k1<=k) (b:k2+3<=k) (c:e1<=e) (d:e2<=e):PC (VX P Q) (n1+n2) (2*k+1) e :=
 h1.add (h2.scale lq_minus) k e a b c d
theorem PC.at {P:List Tm} {n k e kl:Nat} {l:Nat->Rat} (h:PC P n k e) (hl:∀ i,LQ (l i) kl):LQ (ev P (atM l)) ((n+1)*(k+4*(e*kl+1)+1)):=by
 have hq:∀ t∈P,LQ (t.2*atM l t.1) (k+4*(e*kl+1)):=fun t ht=>by
  have h1:=pw_lq (h.b.lq t ht) hl (fun i=>at_one t.1 i e (h.b.ex t ht)) 4;rwa [pw_four] at h1
 rcases ev_nq hq with h0 | ⟨j,hj0,hj,hn⟩
 ·rw[h0];exact je5 (Nat.mul_pos (Nat.succ_pos _) (Nat.succ_pos _))
 ·exact hn.lq (Nat.mul_le_mul_right _ (zm hj (Nat.le_succ_of_le h.b.len)))
theorem KP.n_le {w:World} {x:PV} {P:List Tm} {n k e:Nat} (h:KP w x P) (b:PC P n k e):x.n<=n:=by rw[h.len];exact b.b.len
theorem get2 {α:Type} {a b:α} {Φ:Nat->α->Prop} (h0:Φ 0 a) (h1:Φ 1 b):∀ i e,[a,b][i]?=some e->Φ i e:=fun i e h=>by
 match i,h with
 | 0,h=>exact(Option.some.inj h)▸h0
 | 1,h=>exact(Option.some.inj h)▸h1
theorem Ki.gr {w:World} {x:PV} {L:List TO} (h:Ki w x L):RT w x.a (L.map Prod.fst)/\(L.map Prod.fst).length=x.n:=⟨h.1,by rw[List.length_map];exact h.2.1⟩
theorem great2P {w:World} {g m:Nat} {x y:PV} {L M:List TO} (hb:Bxs w g 23 [x.v,y.v]) (h1:Ki w x L) (h2:Ki w y M) (hm:m<=1000) :
  Calls Tryz.prog 10 #[.int .i64 m,.slice (some ⟨g,0,none⟩) 2 2] w (BR w (Xo m (L.map Prod.fst)/\Xo m (M.map Prod.fst))) :=
 (jd6 g m 2 [(x,L.map Prod.fst),(y,M.map Prod.fst)] w rfl (get2 (Φ:=fun i (e:PV × List TV)=>w.cell? ⟨g,i,none⟩=some e.1.v) (hb.ce 0) (hb.ce 1)) (jcr h1.gr h2.gr) (by simp) hm).mono
  fun e w' ⟨b,g1,g2,g3⟩=>⟨b,g1,fun hb=>⟨g2 hb (x,L.map Prod.fst) (by simp),g2 hb (y,M.map Prod.fst) (by simp)⟩,g3⟩
theorem Ki.rawP {w:World} {x:PV} {L:List TO} {m:Nat} (h:Ki w x L) (hg:Xo m (L.map Prod.fst)):UU w x L:=h.raw fun e he=>by
 obtain⟨h1,h2⟩:=hg.2 e.1 (List.mem_map_of_mem he);exact⟨zm h1 (by decide),zm h2 (by decide)⟩
theorem jhd {w:World} {x:PV} {L:List TO} {m E:Nat} (h:Ki w x L) (hg:Xo m (L.map Prod.fst)) (hw:∀ e∈L,e.1.m.le E):(∃ P,KP w x P/\PC P m 4 E)\/BP w x:=by
 have hr:=h.rawP hg;by_cases hk:okP L
 ·obtain⟨P,hv,hc⟩:=hk;refine Or.inl ⟨P,hr.kp hv hc,hc,?_⟩;obtain⟨K,hK,hP⟩:=Yo hv
  have hin:∀ e∈K,(e.1,some e.2)∈L:=fun e he=>by rw[hK];exact List.mem_map_of_mem he
  refine⟨?_,fun t ht=>?_,fun t ht=>?_⟩
  ·have h1:=hg.1;rw[List.length_map,hK,List.length_map] at h1;rw[<- hP,List.length_map];exact h1
  ·rw[<- hP] at ht;obtain⟨e,he,rfl⟩:=List.mem_map.1 ht;have h1:KF w e.1.c e.2:=hr.2.2.2.1 _ (hin e he);obtain⟨h2,h3⟩:=hg.2 e.1 (List.mem_map_of_mem (f:=Prod.fst) (hin e he));exact h1.lq ⟨h2,zm h3 (by decide)⟩
  ·rw[<- hP] at ht;obtain⟨e,he,rfl⟩:=List.mem_map.1 ht;exact hw _ (hin e he)
 ·exact Or.inr ⟨L,hr,hk⟩
theorem BP.n_le {w:World} {x:PV} {L:List TO} {m:Nat} (h:Ki w x L) (hg:Xo m (L.map Prod.fst)):x.n<=m:=by
 have h1:=hg.1;rw[List.length_map,h.2.1] at h1;exact h1
abbrev OC (w:World) (lo:Nat) (v:Value) (Zs:List PV):Prop:=w.ownsRow lo 23 1 v Zs.length (Zs.map PV.v)
theorem MR.only {w w':World} {lo g d i b:Nat} {A:List Tm} {bs:Nat->Option Nat} {Ms:Nat->List TE} (h:MR w lo g d i A bs Ms):∀ k b,k<=d->bs k=some b->MK w lo b (Ms k):=fun k b hk hb=>(h.got k b hk hb).1
theorem OC.own {w:World} {lo:Nat} {v:Value} {Zs:List PV} (h:OC w lo v Zs) {k:Nat} (hk:some k=v.ownBlock):lo<=k/\∃ cur,w.heap[k]?=some (.cells cur 23 (0,0)):=by
 rcases h.2 with ⟨hv,_⟩ | ⟨g,cap,cur,hv,hlo,hg,_⟩
 ·rw[hv] at hk;cases hk
 ·rw[hv] at hk;have hk:some k=some g:=hk
  cases hk
  exact⟨hlo,cur,hg⟩
theorem DP.none (w:World) (lo:Nat):DP w lo ⟨none,0,0⟩ []:=⟨⟨[],World.ownsRow_nil _ _ _ _,fun e he=>(by cases he),List.Pairwise.nil,rfl⟩,Canon.nil,fun t ht=>(by cases ht)⟩
structure SA (w:World) (x:PV) (P:List Tm) (ok:Bool) (n k e:Nat):Prop where
 h:(ok=true/\KP w x P)\/(ok=false/\BP w x/\P=[])
 b:PC P n k e
 le:x.n<=1000000
theorem SA.below {w w':World} {x:PV} {P:List Tm} {ok:Bool} {n k e:Nat} (h:SA w x P ok n k e) (hb:Below w.heap.size w w'):SA w' x P ok n k e :=
 ⟨h.h.imp (fun h=>⟨h.1,h.2.below hb⟩) (fun h=>⟨h.1,h.2.1.below hb,h.2.2⟩),h.b,h.le⟩
theorem SA.ap {w:World} {x:PV} {P:List Tm} {ok:Bool} {n k e:Nat} (h:SA w x P ok n k e):AP w x P:=h.h.elim (fun h=>h.2.any) (fun h=>Or.inr h.2)
theorem KP.sa {w:World} {x:PV} {P:List Tm} {n k e:Nat} (h:KP w x P) (b:PC P n k e) (hn:n<=1000000):SA w x P true n k e:=⟨Or.inl ⟨rfl,h⟩,b,zm (h.n_le b) hn⟩
theorem sa_of {w:World} {x:PV} {L:List TO} {m E:Nat} (h:Ki w x L) (hg:Xo m (L.map Prod.fst)) (hw:∀ e∈L,e.1.m.le E) (hm:m<=1000000):∃ P ok,SA w x P ok m 4 E:=by
 rcases jhd h hg hw with ⟨P,hk,hc⟩ | hb
 ·exact⟨P,true,hk.sa hc hm⟩
 ·exact⟨[],false,Or.inr ⟨rfl,hb,rfl⟩,PC.nil _ _ _,zm (BP.n_le h hg) hm⟩
structure ER (w:World) (lo:Nat) (v:Value) (L:List TE):Prop where
 row:OT w lo v (L.map Prod.fst)
 num:∀ e∈L,EF w lo e.1.c e.2
theorem ER.nil {w:World} {lo:Nat}:ER w lo (.slice none 0 0) []:=⟨World.ownsRow_nil _ _ _ _,fun _ h=>(by cases h)⟩
theorem ER.below {w w':World} {lo:Nat} {v:Value} {L:List TE} (h:ER w lo v L) (hb:Below w.heap.size w w'):ER w' lo v L:=⟨OT.below h.row hb,fun e he=>(h.num e he).below hb⟩
theorem ER.mono {w:World} {lo lo':Nat} {v:Value} {L:List TE} (h:ER w lo v L) (hl:lo'<=lo):ER w lo' v L:=⟨OT.mono h.row hl,fun e he=>(h.num e he).mono hl⟩
theorem ER.slice {w:World} {lo:Nat} {v:Value} {L:List TE} (h:ER w lo v L):∃ x:PV,v=x.v/\x.n=L.length:=by
 obtain⟨a,c,e,-,-⟩:=OT.slice h.row;exact⟨⟨a,L.length,c⟩,by rw[e,List.length_map],rfl⟩
theorem EF.alloc {w:World} {lo:Nat} {x:FV} {q:Rat} (h:EF w lo x q) (o:Obj):EF (w.alloc o) lo x q:=h.below (zk.alloc zj o)
theorem _root_.Go.RowKit.Below.ofAlloc {B:Nat} {w w':World} {o:Obj} (h:Below B (w.alloc o) w') (hb:B<=w.heap.size):Below B w w':=(zk.alloc hb o).trans h
def V7 (T:TypeId):Bool:=T==71 || T==160
theorem EF.rows {w w':World} {lo:Nat} {x:FV} {q:Rat} (h:EF w lo x q) (hs:∀ (b:Nat) (c:Array Value) (T:TypeId),w.heap[b]?=some (.cells c T (0,0))->V7 T=true->w'.heap[b]?=w.heap[b]?):EF w' lo x q:=h.kept fun b hb=>by
 rcases hb with hb | hb
 ·obtain⟨cur,h5⟩:=ZF h.t.own hb;exact hs b _ _ h5 rfl
 ·obtain⟨cur,h5⟩:=ZF h.l.own hb;exact hs b _ _ h5 rfl
theorem ER.rows {w w':World} {lo:Nat} {v:Value} {L:List TE} (h:ER w lo v L) (hs:∀ (b:Nat) (c:Array Value) (T:TypeId),w.heap[b]?=some (.cells c T (0,0))->V7 T=true->w'.heap[b]?=w.heap[b]?):ER w' lo v L:=by
 refine⟨⟨h.row.1,h.row.2.imp id ?_⟩,fun e he=>(h.num e he).rows hs⟩;rintro⟨g,cap,cur,hv,hlo,hgk,h3⟩;exact⟨g,cap,cur,hv,hlo,(hs g _ _ hgk rfl).trans hgk,h3⟩
structure ZI (w:World) (lo b:Nat) (m:Mo) (q:Rat):Prop where
 ex:∃ y:FV,Bxs w b 71 (TV.cells ⟨y,m⟩)/\EF w lo y q
theorem ZI.rows {w w':World} {lo b:Nat} {m:Mo} {q:Rat} (h:ZI w lo b m q) (hs:∀ (b:Nat) (c:Array Value) (T:TypeId),w.heap[b]?=some (.cells c T (0,0))->V7 T=true->w'.heap[b]?=w.heap[b]?):ZI w' lo b m q:=by
 obtain⟨y,h1,h2⟩:=h.ex;exact⟨y,(hs b _ _ h1 rfl).trans h1,h2.rows hs⟩
structure EP (w:World) (lo:Nat) (x:PV) (P:List Tm):Prop where
 ex:∃ L:List TE,ER w lo x.v L/\L.map tm=P
 canon:Canon P
 small:∀ t∈P,t.1.Small
theorem EP.k {w:World} {lo:Nat} {x:PV} {P:List Tm} (h:EP w lo x P):KP w x P:=by
 obtain⟨L,h1,h4⟩:=h.ex;obtain⟨a,c,e,hc,hr⟩:=OT.slice h1.row;obtain⟨xa,xn,xc⟩:=x;simp only[PV.v,Value.slice.injEq] at e;obtain⟨rfl,rfl,rfl⟩:=e;exact⟨⟨L,hr,(List.length_map ..).symm,fun e he=>(h1.num e he).k,h4⟩,hc,h.canon,h.small⟩
theorem EP.below {w w':World} {lo:Nat} {x:PV} {P:List Tm} (h:EP w lo x P) (hb:Below w.heap.size w w'):EP w' lo x P:=by
 obtain⟨L,h1,h4⟩:=h.ex;exact⟨⟨L,h1.below hb,h4⟩,h.canon,h.small⟩
theorem EP.mono {w:World} {lo lo':Nat} {x:PV} {P:List Tm} (h:EP w lo x P) (hl:lo'<=lo):EP w lo' x P:=by
 obtain⟨L,h1,h4⟩:=h.ex;exact⟨⟨L,h1.mono hl,h4⟩,h.canon,h.small⟩
theorem EP.rows {w w':World} {lo:Nat} {x:PV} {P:List Tm} (h:EP w lo x P) (hs:∀ (b:Nat) (c:Array Value) (T:TypeId),w.heap[b]?=some (.cells c T (0,0))->V7 T=true->w'.heap[b]?=w.heap[b]?):EP w' lo x P:=by
 obtain⟨L,h1,h2⟩:=h.ex;exact⟨⟨L,h1.rows hs,h2⟩,h.canon,h.small⟩
theorem EP.nil {w:World} {lo:Nat}:EP w lo ⟨none,0,0⟩ []:=⟨⟨[],ER.nil,rfl⟩,Canon.nil,fun _ h=>(by cases h)⟩
theorem jcv {w w':World} {lo lo':Nat} {x:NV} {z:Int} {v:Value} {ts:List TV} (h:DN w lo x z) (ho:OT w lo' v ts) (hg:w.grownBy w' v.ownBlock):DN w' lo x z:=by
 refine⟨h.s,h.n,⟨h.own.le,h.own.place.imp id fun ⟨g,cur,ha,hlo,hc,hr⟩=>⟨g,cur,ha,hlo,?_,hr⟩,h.own.rng⟩⟩;refine(hg.block g (lt_of_block hc) fun e=>?_).trans hc
 rcases ho.2 with ⟨hv,-⟩ | ⟨g2,cap,cur2,hv,-,hg2,-⟩
 ·rw[hv] at e;cases e
 ·rw[hv] at e;have e:some g=some g2:=e
  injection e with e
  subst e;rw[hc] at hg2
  cases hg2
theorem EF.grown {w w':World} {lo lo':Nat} {x:FV} {q:Rat} {v:Value} {ts:List TV} (h:EF w lo x q) (ho:OT w lo' v ts) (hg:w.grownBy w' v.ownBlock):EF w' lo x q:=⟨jcv h.t ho hg,jcv h.l ho hg⟩
theorem tv_one (t:TV):∀ u∈TV.cells t,u.oneCell'=true:=by
 intro u hu;simp only[TV.cells,List.mem_cons,List.mem_nil_iff,or_false] at hu
 rcases hu with rfl | rfl | rfl | rfl | rfl | rfl | rfl | rfl <;> rfl
theorem info8P:(Tryz.prog.info? 71).map (fun i=>(i.zero,i.size,i.bytes))=some (some (.agg #[.bool false,.slice none 0 0,.bool false,.slice none 0 0,.int .u16 0,.int .u16 0,.int .u16 0,.int .u16 0]),8,72):=by kernel_rfl
theorem Ql {ops:Array Oper} {rest:List Oper} {oo:Oper} {ac:Act} {Q:Exit->Act->World->Prop} (hgd:oo.guard=none) (s x:Operand)
  (ho:oo.op=.call { callee:=.builtin .append,args:=#[s,x],argTypes:=#[23,23] })
  {w:World} {lo:Nat} {v:Value} {L:List TE} (hs:ac.eval s=v) (h:ER w lo v L) (hn:L.length<=1000000000) (hb:lo<=w.heap.size)
  {gs:Nat} {t:TV} {q:Rat} {m c:Nat} (hx:ac.eval x=.slice (some ⟨gs,0,none⟩) m c) (hc:Bxs w gs 71 t.cells) (hq:EF w lo t.c q) (hm:m=1)
  (hK:∀ (z:PV) w',ER w' lo z.v (L++[(t,q)])->Below lo w w'->wpList Tryz.prog ops Q rest (ac.put oo.dst z.v) w'):wpList Tryz.prog ops Q (oo :: rest) ac w:=by
 subst hm;obtain⟨i0,hi,hz0,hz1,hz2⟩:=info_parts info8P;refine wpList_append_own _ hgd s x 23 ho lo 71 i0 _ 8 72 Tryz.underlying23 hi hz0 hz1 hz2 rfl (by decide) v _ _ hs h.row ⟨gs,0,none⟩ 1 c (TV.cells t) hx rfl (fun j u hj=>?_) (tv_one t) ?_ ?_ hb ?_
 ·rw[Addr.add_lit,Nat.zero_add];exact hc.cell hj
 ·rw[List.length_map];unfold maxLen;omega
 ·rw[List.length_map];omega
 ·intro v' w' hown hg _
  have e1:(L++[(t,q)]).map Prod.fst=L.map Prod.fst++[t]:=by rw[List.map_append];rfl
  have e2:(L.map Prod.fst++[t]).flatMap TV.cells=(L.map Prod.fst).flatMap TV.cells++TV.cells t:=by rw[List.flatMap_append,List.flatMap_cons,List.flatMap_nil,List.append_nil]
  have hr:OT w' lo v' ((L++[(t,q)]).map Prod.fst):=by
   rw[e1];show w'.ownsRow _ _ _ _ _ _;rw[e2,List.length_append];exact hown
  have hE:ER w' lo v' (L++[(t,q)]):=⟨hr,fun e he=>by
   rcases List.mem_append.1 he with he | he
   ·exact(h.num e he).grown h.row hg
   ·rw[List.mem_singleton.1 he];exact hq.grown h.row hg⟩
  obtain⟨z,rfl,-⟩:=hE.slice;exact hK z w' hE (zk.grown hg hb (fun g hg=>(World.ownsRow.lt h.row g hg).1))
theorem KP.get {w:World} {a:Option Addr} {n c:Nat} {P:List Tm} (h:KP w ⟨a,n,c⟩ P) {i:Nat} (hi:i<n):∃ (t:TV) (q:Rat) (b o:Nat),a=some ⟨b,o,none⟩/\RE w b o i t/\KF w t.c q/\P[i]?=some (t.m,q):=by
 obtain⟨L,h1,h2,h3,h4⟩:=h.ex;have hl:L.length=n:=h2;obtain⟨e,he⟩:∃ e,L[i]?=some e:=⟨_,List.getElem?_eq_getElem (by rw[hl];exact hi)⟩;obtain⟨b,o,ha,hc⟩:=(show RT w a (L.map Prod.fst) from h1).one (fun h0=>by rw[List.map_eq_nil_iff.1 h0] at he;simp at he);exact⟨e.1,e.2,b,o,ha,hc i e.1 (by rw[List.getElem?_map,he];rfl),h3 e (List.mem_of_getElem? he),by rw[<- h4,List.getElem?_map,he];rfl⟩
structure Bt (W w:World):Prop where
 b:Below W.heap.size W w
theorem Bt.below {W w w':World} (h:Bt W w) (hb:Below w.heap.size w w'):Bt W w':=⟨h.b.trans (hb.mono h.b.size)⟩
theorem jeh {w:World} {x:PV} {P:List Tm} (h:AP w x P) (hq:∀ t∈P,LQ t.2 900000) (hn:x.n<=1000000000):∃ y:PV,KP w y P/\y.n<=x.n/\∀ W,Below w.heap.size w W->Calls Tryz.prog 79 #[x.v] W fun e w'=>e=.returned y.v/\Below W.heap.size W w':=by
 rcases h with h | ⟨h,rfl⟩
 ·exact⟨x,h,zj,fun W hb=>rfit_k (h.below hb) hq hn⟩
 ·exact⟨⟨none,0,0⟩,KP.nil _ _ _,Nat.zero_le _,fun W hb=>rfit_b (h.below hb) hn⟩
theorem put4_ef {w:World} {lo b:Nat} {x:FV} {q:Rat} {t:TypeId} {u0 u1 u2 u3:Value} (h:EF w lo x q) (hb:Bxs w b t [u0,u1,u2,u3]) (ht:160≠t) (v0 v1 v2 v3:Value):EF (put4 w b v0 v1 v2 v3) lo x q :=
 (((h.Jv hb ht 0 v0).Jv (hb.put 0 v0) ht 1 v1).Jv ((hb.put 0 v0).put 1 v1) ht 2 v2).Jv (((hb.put 0 v0).put 1 v1).put 2 v2) ht 3 v3
theorem jbb {w:World} {c:FV} {p:Rat} (h1:AF w c p) (b1:LF c 900000) (hq:LQ p 900000):Calls Tryz.prog 78 #[c.v] w (RKV w p):=by
 obtain⟨V,hV⟩:∃ V,V=(w.alloc (.cells #[.bool c.t.s,.slice c.t.a c.t.n c.t.c,.bool c.l.s,.slice c.l.a c.l.n c.l.c] 28)).alloc (.cells #[.bool false,.slice none 0 0,.bool false,.slice none 0 0] 28):=⟨_,rfl⟩
 have hbV:Below w.heap.size w V:=by rw[hV];exact(zk.alloc zj _).alloc (by go_size) _
 have B1:=qh (show Bxs V w.heap.size 28 [.bool c.t.s,.slice c.t.a c.t.n c.t.c,.bool c.l.s,.slice c.l.a c.l.n c.l.c] by rw[hV];exact(Bxs.new w 28 [.bool c.t.s,.slice c.t.a c.t.n c.t.c,.bool c.l.s,.slice c.l.a c.l.n c.l.c]).alloc _)
 have B2:=qh (show Bxs V (w.heap.size+1) 28 [.bool false,.slice none 0 0,.bool false,.slice none 0 0] by
  have h:=Bxs.new (w.alloc (.cells #[.bool c.t.s,.slice c.t.a c.t.n c.t.c,.bool c.l.s,.slice c.l.a c.l.n c.l.c] 28)) 28 [.bool false,.slice none 0 0,.bool false,.slice none 0 0];rw[World.size_alloc] at h
  rw[hV];exact h)
 have CN:=qh (show Calls Tryz.prog 175 #[.agg #[.bool c.t.s,.slice c.t.a c.t.n c.t.c,.bool c.l.s,.slice c.l.a c.l.n c.l.c]] V _ from rnegV (h1.below hbV) b1);have HQ:=qh (show LQ (-p) 900000 from⟨by rw[Rat.neg_num,Int.natAbs_neg];exact hq.t,by rw[Rat.neg_den];exact hq.l⟩);have KG:=qh hbV;have HV:=qh hV;obtain⟨A2,hA2⟩:∃ A,A=w.heap.size+1:=⟨_,rfl⟩;have HA2:=qh hA2;rw[<- hA2] at B2;clear hV hbV h1 b1 hq hA2;change Calls Tryz.prog 78 #[.agg #[.bool c.t.s,.slice c.t.a c.t.n c.t.c,.bool c.l.s,.slice c.l.a c.l.n c.l.c]] w _;go_enter Tryz.func78,Tryz.ntmps78;have c10:=B1.o.ce 0;have c11:=B1.o.ce 1;have c12:=B1.o.ce 2;have c13:=B1.o.ce 3
 go_upto_region 1 with (fail)
 rw[show(w.alloc (.cells #[.bool c.t.s,.slice c.t.a c.t.n c.t.c,.bool c.l.s,.slice c.l.a c.l.n c.l.c] 28)).alloc (.cells #[.bool false,.slice none 0 0,.bool false,.slice none 0 0] 28)=V from HV.o.symm,show w.heap.size+1=A2 from HA2.o.symm];go_wp2_with fail
 with_reducible refine CN.o.mono ?_
 rintro e w1 ⟨d,rfl,hd,hb⟩;have ND:=qh hd;have B2:=qh (B2.o.bl hb);have KG:=qk KG hb;have CN:=qh (show Calls Tryz.prog 175 #[.agg #[.bool d.t.s,.slice d.t.a d.t.n d.t.c,.bool d.l.s,.slice d.l.a d.l.n d.l.c]] w1 _ from rnegV ND.o.k.any (ND.o.k.len HQ.o zj));rw[Rat.neg_neg] at CN;clear hd hb c10 c11 c12 c13;go_wp2_with fail
 with_reducible refine CN.o.mono ?_
 rintro e w2 ⟨d2,rfl,hd,hb⟩;have ND:=qh hd;have B2:=qh (B2.o.bl hb);have KG2:=qh (KG.o.trans (hb.mono KG.o.size));have HSZ:=qh KG.o.size;clear hd hb CN;have c20:=B2.o.ce 0;have c21:=B2.o.ce 1;have c22:=B2.o.ce 2;have c23:=B2.o.ce 3;have c2f:=B2.o.fz;have c2l:=B2.o.lt;have HF:=qh (show EF (put4 w2 A2 (.bool d2.t.s) (.slice d2.t.a d2.t.n d2.t.c) (.bool d2.l.s) (.slice d2.l.a d2.l.n d2.l.c)) w.heap.size d2 p from put4_ef (ND.o.mono HSZ.o) B2.o (by decide) ..);go_wp2_with fail
 exact bodyPost_ret (Jf rfl _ _ _ _ _ _ _ rfl (jcu B2.o ..) Tryz.underlying28 rfl (by kernel_rfl)) rfl ⟨d2,rfl,HF.o,Vy KG2.o (by rw[HA2.o];omega) ..⟩
theorem jd8 {P:List Tm} {r:Rat} {k:Nat} {m:Mo} {q:Rat} (h:P[k]?=some (m,q)):(QR r P)[k]?=some (m,q*r):=by
 unfold QR;rw[List.getElem?_map,h];rfl
theorem jbp {P:List Tm} {r:Rat} (hc:Canon P) (h:∀ t∈P,t.1.Small):∀ t∈Qn r P,t.1.Small:=by
 intro t ht;by_cases hr:r=0
 ·rw[hr,XN] at ht;cases ht
 ·rw[Zk hc hr] at ht;obtain⟨u,hu,rfl⟩:=List.mem_map.1 ht;exact h u hu
theorem jd9 (x:PV) (P:List Tm) (c:FV) (r:Rat) (w:World) (hx:AP w x P) (hq:∀ t∈P,LQ t.2 900000) (hxn:x.n<=1000000) (ac:AF w c r) (lc:LF c 900000) (lr:LQ r 900000) :
  Calls Tryz.prog 20 #[x.v,c.v] w fun e w'=>∃ y:PV,e=.returned y.v/\EP w' w.heap.size y (Qn r P)/\Below w.heap.size w w':=by
 obtain⟨⟨za,zn,zc⟩,hz,hzn,hct⟩:=jeh hx hq (by omega);obtain⟨V,hV⟩:∃ V,V=w.alloc (.cells #[.bool c.t.s,.slice c.t.a c.t.n c.t.c,.bool c.l.s,.slice c.l.a c.l.n c.l.c] 28):=⟨_,rfl⟩
 have hbV:Below w.heap.size w V:=by rw[hV];exact zk.alloc zj _
 have B1:=qh (show Bxs V w.heap.size 28 [.bool c.t.s,.slice c.t.a c.t.n c.t.c,.bool c.l.s,.slice c.l.a c.l.n c.l.c] by rw[hV];exact Bxs.new w 28 [.bool c.t.s,.slice c.t.a c.t.n c.t.c,.bool c.l.s,.slice c.l.a c.l.n c.l.c]);have CT:=qh (hct V hbV);have AC:=qh (ac.below hbV);have LC:=qh lc;have LR:=qh lr;have FZ:=qh hz;have HQ:=qh hq;have KG:=qh hbV;have HV:=qh hV;have HZN:=qh (show zn<=1000000 from zm hzn hxn);have HPL:=qh (show zn=P.length from hz.len);obtain⟨xa,xn,xc⟩:=x;clear hV hbV hx ac lc lr hxn hzn hct hz hq;change Calls Tryz.prog 20 #[.slice xa xn xc,.agg #[.bool c.t.s,.slice c.t.a c.t.n c.t.c,.bool c.l.s,.slice c.l.a c.l.n c.l.c]] w _;go_enter Tryz.func20,Tryz.ntmps20;go_wp2_with fail
 rw[show w.alloc (.cells #[.bool c.t.s,.slice c.t.a c.t.n c.t.c,.bool c.l.s,.slice c.l.a c.l.n c.l.c] 28)=V from HV.o.symm];with_reducible refine CT.o.mono ?_
 rintro e w1 ⟨he,hb⟩;obtain rfl:e=.returned (.slice za zn zc):=he;have B1:=qh (B1.o.bl hb);have KG:=qk KG hb;have CF:=qh (show Calls Tryz.prog 80 #[.agg #[.bool c.t.s,.slice c.t.a c.t.n c.t.c,.bool c.l.s,.slice c.l.a c.l.n c.l.c]] w1 _ from rfitQ (x:=c) (AC.o.below hb) LC.o);clear hb CT AC LC;have c10:=B1.o.ce 0;have c11:=B1.o.ce 1;have c12:=B1.o.ce 2;have c13:=B1.o.ce 3;go_wp2_with fail
 with_reducible refine CF.o.mono ?_
 rintro e w2 ⟨d,rfl,hd,hb⟩;have NC:=qh hd;have B1:=qh (B1.o.bl hb);have KG:=qk KG hb;have HLD:=qh (show LF d 900000 from hd.len LR.o zj);clear hd hb CF c10 c11 c12 c13;have c10:=B1.o.ce 0;have c11:=B1.o.ce 1;have c12:=B1.o.ce 2;have c13:=B1.o.ce 3;have c1f:=B1.o.fz;have c1l:=B1.o.lt
 go_upto_region 3 with (fail)
 obtain⟨W,hW⟩:∃ W,W=put4 w2 w.heap.size (.bool d.t.s) (.slice d.t.a d.t.n d.t.c) (.bool d.l.s) (.slice d.l.a d.l.n d.l.c):=⟨_,rfl⟩;have NC:=qh (show KF W d r by rw[hW];exact put4_kf NC.o B1.o rfl rfl rfl rfl rfl rfl rfl);have KG:=qh (show Below w.heap.size w W by rw[hW];exact Vy KG.o zj ..);have B1:=qh (show Bxs W w.heap.size 28 [.bool d.t.s,.slice d.t.a d.t.n d.t.c,.bool d.l.s,.slice d.l.a d.l.n d.l.c] by rw[hW];exact jcu B1.o ..);unfold put4 at hW;rw[<- hW];clear hW c10 c11 c12 c13 c1f c1l;obtain⟨sg,hsg⟩:∃ c,c=Ju r.num 0:=⟨_,rfl⟩;have HSG:=qh hsg.symm;have HLW:=qh KG.o.size;have HGS:=qh (show(sg != 0)=decide (r≠0) by rw[hsg];exact sg_ne);clear hsg;go_wp2_with fail
 go_loopw [5,6] (fun o i wr=>∃ (k:Nat) (y:PV) (L:List TE),o=y.v/\i=.int .i64 k/\k<=zn/\ER wr W.heap.size y.v L/\L.map tm=(QR r P).take k/\(0<k->r≠0)/\Below W.heap.size W wr) (fun _ i _=>zn-(intOf i).toNat)
 case atStart=>exact⟨0,⟨none,0,0⟩,[],rfl,rfl,Nat.zero_le _,ER.nil,rfl,fun h=>absurd h (Nat.lt_irrefl _),zk⟩
 case round =>
  obtain⟨k,⟨oa,on,oc⟩,L,ho,rfl,hkz,her,hL,hk0,hb0⟩:=hrel;obtain rfl:_=Value.slice oa on oc:=ho;have HKZ:=qh hkz;have ERR:=qh her;have HL:=qh hL;have HK0:=qh hk0;have KW:=qh (show Bt W wr from⟨hb0⟩);have B1:=qh (B1.o.bl hb0);have NC:=qh (NC.o.below hb0);have KG:=qk KG hb0;have HOL:=qh (show L.length<=zn by have h:=congrArg List.length hL;rw[List.length_map,List.length_take] at h;omega);clear hkz her hL hk0 hb0;by_cases hkl:k<zn
  ·have HKL:=qh hkl
   have hkl2:(k:Int)<(zn:Int):=by omega
   have CS:=qh (show Calls Tryz.prog 77 #[.agg #[.bool d.t.s,.slice d.t.a d.t.n d.t.c,.bool d.l.s,.slice d.l.a d.l.n d.l.c]] wr _ from YR (x:=d) NC.o.any HLD.o);rw[HSG.o] at CS;clear hkl;have c10:=B1.o.ce 0;have c11:=B1.o.ce 1;have c12:=B1.o.ce 2;have c13:=B1.o.ce 3;go_wp2_with fail
   with_reducible refine CS.o.mono ?_
   rintro e w3 ⟨rfl,hb⟩;have ERR:=qh (ERR.o.below hb);have NC:=qh (NC.o.below hb);have KW:=qh (KW.o.below hb);have B1:=qh (B1.o.bl hb);have KG:=qk KG hb;clear hb CS c10 c11 c12 c13;by_cases hr:r=0
   ·have g0:(sg != 0)=false:=by rw[HGS.o];exact zo fun h=>h hr
    have g1:sg=0:=by simpa using g0
    have HK:=qh (show k=0 from Nat.eq_zero_of_not_pos fun h=>HK0.o h hr);have HR:=qh hr;clear hr;go_wp2_with fail
    go_ret;refine⟨⟨oa,on,oc⟩,rfl,⟨⟨L,ERR.o.mono HLW.o,?_⟩,Xr _ _,?_⟩,KG.o⟩
    ·rw[HL.o,HK.o,HR.o,XN];rfl
    ·rw[HR.o,XN];intro t ht;cases ht
   ·have g0:(sg != 0)=true:=by rw[HGS.o];exact decide_eq_true hr
    have g1:¬(sg=0):=by simpa using g0
    have HR:=qh hr;obtain⟨t,q,pb,po,rfl,hre,hnf,htp⟩:=FZ.o.get HKL.o;have E1:=qh (hre.below KG.o);have NF:=qh (hnf.below KG.o);have HTP:=qh htp;have HLF:=qh (show LF t.c 900000 from hnf.len (HQ.o _ (List.mem_of_getElem? htp)) zj);have HLO:=qh KW.o.b.size;clear hr hre hnf htp
    go_upto_region 7 with (fail)
    refine FS.Jb 15 [] (FS.JH [(7,FS.Sp.made (fun x:FV=>x.v) (fun x w'=>EF w' w3.heap.size x (q*r)) FV.blk),(14,FS.Sp.made (fun b:Nat=>Value.slice (some ⟨b,0,none⟩) 1 1) (fun b w'=>ZI w' w3.heap.size b t.m (q*r)) (fun _ _=>False))])
     (fun w'=>Below w3.heap.size w3 w') (by kernel_rfl) (by kernel_rfl) (by kernel_rfl)
     (FS.Jd (FS.Sp.Jg _ (fun _ _ _ h _ hk=>h.kept hk) (FS.JM (by kernel_rfl))) (FS.Jd (FS.Sp.Qd _ V7 (fun _ _ _ h hs=>h.rows hs) (by kernel_rfl) (FS.JM (by kernel_rfl))) (FS.Jk))) (fun _ _ h hb=>h.trans (hb.mono h.size)) (zk.drew) ?_
    simp only[zu,zi,ze,zx,zy,zv,zw]
    iterate 7
     refine FS.Jc rfl rfl rfl ?_ (fun w' hw'=>?_) ?_;rotate_left
     ·have hb':=hw'.world;have hn:=HKL.o;obtain⟨hs0,hs1,hs2,hs3,hs4,hs5,hs6,hs7⟩:=(E1.o.below hb').eight;have hs0:=(B1.o.bl hb').ce 0;have hs1:=(B1.o.bl hb').ce 1;have hs2:=(B1.o.bl hb').ce 2;have hs3:=(B1.o.bl hb').ce 3;have hsf:=(B1.o.bl hb').fz;have hsl:=(B1.o.bl hb').lt;clear hw';go_simp
      try rfl
     conv=>arg 10;simp only[Act.put,zq0,zq1,zq2]
    refine FS.Je rfl rfl rfl (fun w' hw'=>?_) ?_
    ·have hb':=hw'.world;refine FS.Jn (FS.PM (fun x:FV=>x.v) (fun x w'=>EF w' w3.heap.size x (q*r)) FV.blk w'.heap.size) ?_ (fun _ _ h=>h.post (fun _ _=>FV.inj));go_simp;have CT:=(show Calls Tryz.prog 81 #[.agg #[.bool t.c.t.s,.slice t.c.t.a t.c.t.n t.c.t.c,.bool t.c.l.s,.slice t.c.l.a t.c.l.n t.c.l.c],.agg #[.bool d.t.s,.slice d.t.a d.t.n d.t.c,.bool d.l.s,.slice d.l.a d.l.n d.l.c]] w' _ from rmulV (x:=t.c) (y:=d) (NF.o.below hb').any HLF.o (NC.o.below hb').any HLD.o);refine CT.mono ?_;rintro e w'' ⟨za,rfl,ho,hb⟩;exact⟨_,rfl,⟨za,rfl,ho.mono hb'.size,ho.Q7⟩,hb⟩
    rintro _ ⟨y7,rfl⟩
    conv=>arg 10;simp only[Act.put,zq0,zq1,zq2]
    iterate 6
     refine FS.Jc rfl rfl rfl ?_ (fun w' hw'=>?_) ?_;rotate_left
     ·have hb':=hw'.world;have hn:=HKL.o;obtain⟨hs0,hs1,hs2,hs3,hs4,hs5,hs6,hs7⟩:=(E1.o.below hb').eight;clear hw';go_simp
      try rfl
     conv=>arg 10;simp only[Act.put,zq0,zq1,zq2]
    refine FS.Je rfl rfl rfl (fun w' hw'=>?_) ?_
    ·have hb':=hw'.world;refine FS.Jn (FS.PM (fun b:Nat=>Value.slice (some ⟨b,0,none⟩) 1 1) (fun b w'=>ZI w' w3.heap.size b t.m (q*r)) (fun _ _=>False) w'.heap.size) ?_ (fun _ _ h=>h.post (fun _ _ h=>by cases h;rfl));go_simp;have f7:=FS.JX (val:=(fun x:FV=>x.v)) (Φ:=fun x w'=>EF w' w3.heap.size x (q*r)) (fun _ _=>FV.inj) (hw'.jaz 13 7 (by kernel_rfl) (by kernel_rfl));exact⟨⟨w'.heap.size,rfl,⟨⟨y7,Bxs.new w' _ (TV.cells ⟨y7,t.m⟩),f7.alloc _⟩⟩,fun _ h=>False.elim h⟩,zk.alloc zj _⟩
    rintro _ ⟨y14,rfl⟩
    conv=>arg 10;simp only[Act.put,zq0,zq1,zq2]
    refine FS.Jm (fun w101 hb hF=>?_);obtain⟨⟨yy104,hB,hE⟩⟩:=FS.JX (val:=(fun b:Nat=>Value.slice (some ⟨b,0,none⟩) 1 1)) (Φ:=fun b w'=>ZI w' w3.heap.size b t.m (q*r)) (fun _ _ h=>by cases h;rfl) (hF.all 14);have NB102:=qh hB;have NE103:=qh hE;clear hB hE;clear hF;have NF:=qh (NF.o.below hb);have NC:=qh (NC.o.below hb);have ERR:=qh (ERR.o.below hb);have KW:=qh (KW.o.below hb);have B1:=qh (B1.o.bl hb);have KG:=qk KG hb;clear hb;go_wp2_with (first | (at_builtin;refine Ql (t:=⟨yy104,t.m⟩) rfl _ _ rfl rfl ERR.o (by have:=HOL.o;have:=HZN.o;omega) KW.o.b.size rfl NB102.o (NE103.o.mono HLO.o) rfl ?_))
    intro z9 w9 her9 hb9;obtain⟨za9,zn9,zc9⟩:=z9;have ER9:=qh her9;have HB9:=qh hb9;clear her9 hb9;have ek1:IntKind.i64.wrap ((k:Int)+1)=(k:Int)+1:=IntWalk.i64_in _ (by have:=HKL.o;have:=HZN.o;omega);go_wp2_with fail
    go_roundw
    case rel =>
     refine⟨k+1,⟨za9,zn9,zc9⟩,L++[(⟨yy104,t.m⟩,q*r)],rfl,rfl,HKL.o,ER9.o,?_,fun _=>HR.o,KW.o.b.trans HB9.o⟩;rw[List.map_append,HL.o,List.take_add_one,jd8 HTP.o];rfl
    case measure=>simp[intOf];have:=HKL.o;omega
  ·have HKE:=qh (show k=zn by have:=HKZ.o;omega)
   have hge:¬((k:Int)<(zn:Int)):=by omega
   clear hkl;go_wp2_with fail
   go_ret;refine⟨⟨oa,on,oc⟩,rfl,⟨⟨L,ERR.o.mono HLW.o,?_⟩,Xr _ _,jbp FZ.o.canon FZ.o.small⟩,KG.o⟩;rw[HL.o,HKE.o,HPL.o];by_cases hr:r=0
   ·have h0:P.length=0:=Nat.eq_zero_of_not_pos fun h=>HK0.o (by rw[HKE.o,HPL.o];exact h) hr
    rw[hr,XN,h0];rfl
   ·rw[Zk FZ.o.canon hr,List.take_of_length_le (by unfold QR;rw[List.length_map];exact zj)]
theorem jhe (a b:Mo) (w:World) (h:(a.mul b).Small):Calls Tryz.prog 236 #[Mo.v a,Mo.v b] w fun e w'=>e=.returned (.tuple #[Mo.v (a.mul b),.int .i64 0])/\Below w.heap.size w w':=by
 obtain⟨h1,h2,h3,h4⟩:=h;change a.x+b.x<=65535 at h1;change a.y+b.y<=65535 at h2;change a.z+b.z<=65535 at h3;change a.t+b.t<=65535 at h4
 have hs:∀ m:Mo,m.Small->Mono.Small (fun i=>((m.at i:Nat):Int)):=fun m hm i hi=>by
  obtain⟨g1,g2,g3,g4⟩:=hm
  match i,hi with
  | 0,_=>exact⟨Int.natCast_nonneg _,by show(m.x:Int)<=_;omega⟩
  | 1,_=>exact⟨Int.natCast_nonneg _,by show(m.y:Int)<=_;omega⟩
  | 2,_=>exact⟨Int.natCast_nonneg _,by show(m.z:Int)<=_;omega⟩
  | 3,_=>exact⟨Int.natCast_nonneg _,by show(m.t:Int)<=_;omega⟩
 have hB:Mono.Yu (fun i=>((a.at i:Nat):Int)) (fun i=>((b.at i:Nat):Int))=true:=decide_eq_true (by
  show(a.x:Int)+b.x<=65535/\(a.y:Int)+b.y<=65535/\(a.z:Int)+b.z<=65535/\(a.t:Int)+b.t<=65535
  omega)
 refine(Mono.Xj (fun i=>((a.at i:Nat):Int)) (fun i=>((b.at i:Nat):Int)) w (hs a ⟨by omega,by omega,by omega,by omega⟩) (hs b ⟨by omega,by omega,by omega,by omega⟩)).mono ?_;rintro e w' ⟨rfl,hb⟩;refine⟨?_,hb⟩;unfold Mono.YZ Mono.mulM;simp only[hB,if_true];rfl
theorem jea (a b:Mo) (w:World) (ha:a.Small) (hb:b.Small) (h:¬(a.mul b).Small):Calls Tryz.prog 236 #[Mo.v a,Mo.v b] w fun e w'=>e=.returned (.tuple #[.agg #[.int .u16 0,.int .u16 0,.int .u16 0,.int .u16 0],.int .i64 3])/\Below w.heap.size w w':=by
 have hs:∀ m:Mo,m.Small->Mono.Small (fun i=>((m.at i:Nat):Int)):=fun m hm i hi=>by
  obtain⟨g1,g2,g3,g4⟩:=hm
  match i,hi with
  | 0,_=>exact⟨Int.natCast_nonneg _,by show(m.x:Int)<=_;omega⟩
  | 1,_=>exact⟨Int.natCast_nonneg _,by show(m.y:Int)<=_;omega⟩
  | 2,_=>exact⟨Int.natCast_nonneg _,by show(m.z:Int)<=_;omega⟩
  | 3,_=>exact⟨Int.natCast_nonneg _,by show(m.t:Int)<=_;omega⟩
 have hB:Mono.Yu (fun i=>((a.at i:Nat):Int)) (fun i=>((b.at i:Nat):Int))=false:=zo (by
  show ¬((a.x:Int)+b.x<=65535/\(a.y:Int)+b.y<=65535/\(a.z:Int)+b.z<=65535/\(a.t:Int)+b.t<=65535);intro h2;refine h ⟨?_,?_,?_,?_⟩
  ·show a.x+b.x<=65535;omega
  ·show a.y+b.y<=65535;omega
  ·show a.z+b.z<=65535;omega
  ·show a.t+b.t<=65535;omega)
 refine(Mono.Xj (fun i=>((a.at i:Nat):Int)) (fun i=>((b.at i:Nat):Int)) w (hs a ha) (hs b hb)).mono ?_;rintro e w' ⟨rfl,hb⟩;refine⟨?_,hb⟩;unfold Mono.YZ Mono.mulM;simp only[hB];rfl
theorem TwN.grown {w w':World} {lo lo':Nat} {t x:NV} {o:Nat->Int} {v:Value} {ts:List TV} (h:TwN w lo t x o) (ho:OT w lo' v ts) (hg:w.grownBy w' v.ownBlock):TwN w' lo t x o:=h.kept fun b ⟨p,hp,e⟩=>by
 obtain⟨cur,hc⟩:=ZF h.own ⟨p,hp,e⟩
 refine hg.block b (lt_of_block hc) fun e2=>?_
 rcases ho.2 with ⟨hv,-⟩ | ⟨g2,cap,cur2,hv,-,hg2,-⟩
 ·rw[hv] at e2;cases e2
 ·rw[hv] at e2;have e2:some b=some g2:=e2
  injection e2 with e2
  subst e2;rw[hc] at hg2
  cases hg2
theorem TwF.grown {w w':World} {lo lo':Nat} {t x:FV} {o1 o2:Nat->Int} {v:Value} {ts:List TV} (h:TwF w lo t x o1 o2) (ho:OT w lo' v ts) (hg:w.grownBy w' v.ownBlock):TwF w' lo t x o1 o2:=⟨h.top.grown ho hg,h.low.grown ho hg,h.ap⟩
def TwE (w0 w:World) (lo:Nat) (t u:TV):Prop:=t.m=u.m/\∃ o1 o2,Rd w0 u.c.t.a u.c.t.n o1/\Rd w0 u.c.l.a u.c.l.n o2/\TwF w lo t.c u.c o1 o2
theorem TwE.grown {w0 w w':World} {lo lo':Nat} {t u:TV} {v:Value} {ts:List TV} (h:TwE w0 w lo t u) (ho:OT w lo' v ts) (hg:w.grownBy w' v.ownBlock):TwE w0 w' lo t u:=by
 obtain⟨e,o1,o2,h1,h2,h3⟩:=h;exact⟨e,o1,o2,h1,h2,h3.grown ho hg⟩
theorem TwE.below {w0 w w':World} {lo:Nat} {t u:TV} (h:TwE w0 w lo t u) (hb:Below w.heap.size w w'):TwE w0 w' lo t u:=by
 obtain⟨e,o1,o2,h1,h2,h3⟩:=h;exact⟨e,o1,o2,h1,h2,h3.below hb⟩
theorem TwE.Q7 {w0 w:World} {lo:Nat} {t u:TV} (h:TwE w0 w lo t u):∀ b,FV.blk t.c b->lo<=b/\b<w.heap.size:=by
 obtain⟨e,o1,o2,h1,h2,h3⟩:=h;exact h3.Q7
structure jbc (w0 w:World) (lo:Nat) (v:Value) (ts us:List TV):Prop where
 row:OT w lo v ts
 len:ts.length=us.length
 each:∀ (i:Nat) (t u:TV),ts[i]?=some t->us[i]?=some u->TwE w0 w lo t u
 ap:ts.Pairwise fun t s=>FV.apart t.c s.c
theorem jbc.below {w0 w w':World} {lo:Nat} {v:Value} {ts us:List TV} (h:jbc w0 w lo v ts us) (hb:Below w.heap.size w w'):jbc w0 w' lo v ts us:=⟨OT.below h.row hb,h.len,fun i t u h1 h2=>(h.each i t u h1 h2).below hb,h.ap⟩
def YS:TV:=⟨⟨⟨false,none,0,0⟩,⟨false,none,0,0⟩⟩,⟨77,77,77,0⟩⟩
structure TwP (w0 w:World) (lo:Nat) (x:PV) (ts us:List TV):Prop where
 row:OT w lo (.slice x.a (x.n+1) x.c) (ts++[YS])
 n:x.n=us.length
 len:ts.length=us.length
 each:∀ (i:Nat) (t u:TV),ts[i]?=some t->us[i]?=some u->TwE w0 w lo t u
 ap:ts.Pairwise fun t s=>FV.apart t.c s.c
theorem info8L:(Tryz.prog.info? 71).map (fun i=>(i.zero,i.size,i.bytes))=some (some (.agg #[.bool false,.slice none 0 0,.bool false,.slice none 0 0,.int .u16 0,.int .u16 0,.int .u16 0,.int .u16 0]),8,72):=by kernel_rfl
theorem Kk {ops:Array Oper} {rest:List Oper} {oo:Oper} {ac:Act} {Q:Exit->Act->World->Prop} (hgd:oo.guard=none) (s x:Operand)
  (ho:oo.op=.call { callee:=.builtin .append,args:=#[s,x],argTypes:=#[22,22] })
  {w:World} {lo:Nat} {v:Value} {ts:List TV} (hs:ac.eval s=v) (h:OT w lo v ts) (hn:ts.length<=1000000000) (hb:lo<=w.heap.size)
  {gs:Nat} {t:TV} {m c:Nat} (hx:ac.eval x=.slice (some ⟨gs,0,none⟩) m c) (hc:Bxs w gs 71 t.cells) (hm:m=1)
  (hK:∀ (a:Option Addr) (c':Nat) w',OT w' lo (.slice a (ts.length+1) c') (ts++[t])->ts.length+1<=c'->w.grownBy w' v.ownBlock->Below lo w w'->wpList Tryz.prog ops Q rest (ac.put oo.dst (.slice a (ts.length+1) c')) w'):wpList Tryz.prog ops Q (oo :: rest) ac w:=by
 subst hm;obtain⟨i0,hi,hz0,hz1,hz2⟩:=info_parts info8L;refine wpList_append_own _ hgd s x 22 ho lo 71 i0 _ 8 72 Tryz.underlying22 hi hz0 hz1 hz2 rfl (by decide) v _ _ hs h ⟨gs,0,none⟩ 1 c (TV.cells t) hx rfl (fun j u hj=>?_) (tv_one t) ?_ ?_ hb ?_
 ·rw[Addr.add_lit,Nat.zero_add];exact hc.cell hj
 ·unfold maxLen;omega
 ·omega
 ·intro v' w' hown hg _
  have e2:(ts++[t]).flatMap TV.cells=ts.flatMap TV.cells++TV.cells t:=by rw[List.flatMap_append,List.flatMap_cons,List.flatMap_nil,List.append_nil]
  have hr:OT w' lo v' (ts++[t]):=by
   show w'.ownsRow _ _ _ _ _ _;rw[e2,List.length_append];exact hown
  obtain⟨a,c',rfl,hc',-⟩:=OT.slice hr
  have hl:(ts++[t]).length=ts.length+1:=by rw[List.length_append];rfl
  rw[hl] at hr hc' ⊢;exact hK a c' w' hr hc' hg (zk.grown hg hb (fun g hg=>(World.ownsRow.lt h g hg).1))
theorem Kl (x:PV) (us:List TV) (w:World) (hr:RT w x.a us) (hn:us.length=x.n) (hx:x.n<=1000000) (hrd:∀ u∈us,∃ o1 o2,Rd w u.c.t.a u.c.t.n o1/\Rd w u.c.l.a u.c.l.n o2/\u.c.t.n<=100000000/\u.c.l.n<=100000000) :
  Calls Tryz.prog 12 #[x.v] w fun e w'=>∃ (y:PV) (ts:List TV),e=.returned y.v/\y.n=x.n/\TwP w w' w.heap.size y ts us/\Below w.heap.size w w':=by
 obtain⟨xa,xn,xc⟩:=x;have HR:=qh (show RT w xa us from hr);have HN:=qh (show us.length=xn from hn);have HX:=qh (show xn<=1000000 from hx);have HRD:=qh hrd;clear hr hn hx hrd;change Calls Tryz.prog 12 #[.slice xa xn xc] w _;obtain⟨i0,hi,hz0,hz1,hz2⟩:=info_parts info8L;have e1:=IntWalk.i64_in ((xn:Int)+1) (by have:=HX.o;omega);obtain⟨MC,hMC⟩:∃ c,c=madeCells (Value.agg #[.bool false,.slice none 0 0,.bool false,.slice none 0 0,.int .u16 0,.int .u16 0,.int .u16 0,.int .u16 0]).cells ((xn+1)*8):=⟨_,rfl⟩
 have hmk:∀ w:World,(Instr.makeSlice 22 (.int .i64 0) (.int .i64 ((xn:Int)+1))).run Tryz.prog w=.ok (.slice (some ⟨w.heap.size,0,none⟩) 0 (xn+1)) (w.alloc (.cells MC 71)):=by
  intro w;have h:=run_make (P:=Tryz.prog) w 22 71 i0 _ Tryz.underlying22 hi hz0 .i64 .i64 0 ((xn:Int)+1) (by omega) (by omega) (by rw[hz2];have:=HX.o;omega) (by have:=HX.o;omega);rw[hz1,show((xn:Int)+1).toNat=xn+1 by omega,<- hMC] at h;exact h
 have hms:MC.size=(xn+1)*8:=by rw[hMC];simp[madeCells]
 have HMS:=qh hms;clear hMC hms hz0 hz1 hz2 hi;go_enter Tryz.func12,Tryz.ntmps12
 go_upto_region 2 with (fail)
 obtain⟨V,hV⟩:∃ X,X=w.alloc (.cells MC 71):=⟨_,rfl⟩
 have hbV:Below w.heap.size w V:=by rw[hV];exact zk.alloc zj _
 have HO:=qh (show OT V w.heap.size (.slice (some ⟨w.heap.size,0,none⟩) 0 (xn+1)) [] by
  rw[hV];show World.ownsRow _ _ _ _ _ _ _
  exact⟨rfl,.inr ⟨w.heap.size,xn+1,MC,rfl,zj,heap_alloc_new w _,Nat.zero_le _,by have:=HX.o;unfold maxLen;omega,HMS.o,rfl⟩⟩)
 have KG:=qh hbV;rw[<- hV];clear hV hbV hmk;go_wp2_with fail
 go_loopw [3,4] (fun v i wr=>∃ (k:Nat) (ts:List TV) (a:Option Addr) (c:Nat),k<=xn/\i=.int .i64 k/\v=.slice a k c/\jbc w wr w.heap.size v ts (us.take k)/\Below w.heap.size w wr) (fun _ i _=>xn-(intOf i).toNat)
 case atStart=>exact⟨0,[],_,_,Nat.zero_le _,rfl,rfl,⟨HO.o,rfl,fun i t u h=>by simp at h,List.Pairwise.nil⟩,KG.o⟩
 case round =>
  obtain⟨k,ts,a,c,hk,rfl,rfl,hR,hb0⟩:=hrel;have HKN:=qh hk;have TR:=qh hR;have KG:=qh hb0
  have htl:ts.length=k:=by rw[hR.len,List.length_take,HN.o];omega
  have HTL:=qh htl;clear hk hR hb0 htl HO;by_cases hkl:k<xn
  ·have HKL:=qh hkl
   have hlt:(k:Int)<(xn:Int):=by omega
   obtain⟨u,hu⟩:∃ u,us[k]?=some u:=⟨_,List.getElem?_eq_getElem (by rw[HN.o];exact hkl)⟩;have HU:=qh hu;obtain⟨pb,po,rfl,hre⟩:=HR.o.one (fun e=>by rw[e] at hu;simp at hu);obtain⟨o1,o2,r1,r2,g1,g2⟩:=HRD.o u (List.mem_of_getElem? hu);have E1:=qh ((hre k u hu).below KG.o);have CT:=qh (show Calls Tryz.prog 67 #[.agg #[.bool u.c.t.s,.slice u.c.t.a u.c.t.n u.c.t.c,.bool u.c.l.s,.slice u.c.l.a u.c.l.n u.c.l.c,.int .u16 u.m.x,.int .u16 u.m.y,.int .u16 u.m.z,.int .u16 u.m.t]] wr _ from jai u o1 o2 wr (r1.below KG.o) g1 (r2.below KG.o) g2);have R1:=qh r1;have R2:=qh r2;have ek:IntKind.i64.wrap ((k:Int)+1)=(k:Int)+1:=IntWalk.i64_in _ (by have:=HKL.o;have:=HX.o;omega);obtain⟨c0,c1,c2,c3,c4,c5,c6,c7⟩:=E1.o.eight;clear hkl hu hre r1 r2 g1 g2;go_wp2_with fail
   with_reducible refine CT.o.mono ?_
   rintro e w1 ⟨y,rfl,hy,hb⟩;have HSZ:=qh KG.o.size;have HY:=qh hy
   have HBK:=qh (show ∀ t∈ts,∀ b,FV.blk t.c b->b<wr.heap.size from fun t ht b hbk=>by
    obtain⟨i,hi⟩:=List.mem_iff_getElem?.1 ht;have hil:=(List.getElem?_eq_some_iff.1 hi).1;obtain⟨u2,hu2⟩:∃ u2,(us.take k)[i]?=some u2:=⟨_,List.getElem?_eq_getElem (by rw[<- TR.o.len];exact hil)⟩
    exact((TR.o.each i t u2 hi hu2).Q7 b hbk).2)
   have TR:=qh (TR.o.below hb);have KG:=qk KG hb;clear hy hb CT c0 c1 c2 c3 c4 c5 c6 c7;go_wp2_with (first | (at_builtin;refine Kk (t:=⟨y,u.m⟩) rfl _ _ rfl rfl (OT.below TR.o.row (zk.alloc zj _)) (by rw[HTL.o];have:=HKL.o;have:=HX.o;omega) (by have h9:=KG.o.size;rw[World.size_alloc];omega) rfl (Bxs.new _ _ _) rfl ?_))
   intro a9 c9 w9 hot hle hg hb9;have hal:Below w1.heap.size w1 (w1.alloc (.cells #[.bool y.t.s,.slice y.t.a y.t.n y.t.c,.bool y.l.s,.slice y.l.a y.l.n y.l.c,.int .u16 u.m.x,.int .u16 u.m.y,.int .u16 u.m.z,.int .u16 u.m.t] 71)):=zk.alloc zj _;have HOA:=OT.below TR.o.row hal
   have TR2:=qh (show jbc w w9 w.heap.size (.slice a9 (k+1) c9) (ts++[⟨y,u.m⟩]) (us.take (k+1)) by
    refine⟨by rw[HTL.o] at hot;exact hot,?_,fun i t v h1 h2=>?_,?_⟩
    ·rw[List.length_append,HTL.o,List.length_take,HN.o];have:=HKL.o;simp;omega
    ·by_cases hi:i<k
     ·rw[List.getElem?_append_left (by rw[HTL.o];exact hi)] at h1;rw[List.getElem?_take,if_pos (by omega)] at h2;exact((TR.o.each i t v h1 (by rw[List.getElem?_take,if_pos hi];exact h2)).below hal).grown HOA hg
     ·have hil:=(List.getElem?_eq_some_iff.1 h1).1;rw[List.length_append,HTL.o] at hil
      obtain rfl:i=k:=by simp at hil;omega
      rw[List.getElem?_append_right (by rw[HTL.o];exact zj),HTL.o,Nat.sub_self] at h1;obtain rfl:(⟨y,u.m⟩:TV)=t:=Option.some.inj h1;rw[List.getElem?_take,if_pos (by omega),HU.o] at h2;obtain rfl:=Option.some.inj h2;exact TwE.grown (TwE.below ⟨rfl,o1,o2,R1.o,R2.o,HY.o.mono HSZ.o⟩ hal) HOA hg
    ·refine List.pairwise_append.2 ⟨TR.o.ap,List.pairwise_singleton _ _,fun t ht s hs=>?_⟩;rw[List.mem_singleton.1 hs];intro b h1 h2;have:=HBK.o t ht b h1;have:=(HY.o.Q7 b h2).1
     omega)
   have KG9:=qh (KG.o.trans (hb9.ofAlloc KG.o.size));have HLC:=qh HTL.o;rw[HLC.o];clear hot hle hg hb9 hal HOA;go_wp2_with fail
   go_roundw
   case rel=>exact⟨k+1,_,a9,c9,HKL.o,rfl,rfl,TR2.o,KG9.o⟩
   case measure=>simp[intOf];have:=HKL.o;omega
  ·have hge:¬((k:Int)<(xn:Int)):=by omega
   obtain rfl:k=xn:=by have:=HKN.o;omega
   clear hkl
   have TR:=qh (show jbc w wr w.heap.size (.slice a k c) ts us by
    have h:=TR.o
    rwa [List.take_of_length_le (by rw[HN.o];exact zj)] at h)
   go_wp2_with (first | (at_builtin;refine Kk (t:=YS) rfl _ _ rfl rfl (OT.below TR.o.row (zk.alloc zj _)) (by rw[HTL.o];have:=HX.o;omega) (by have h9:=KG.o.size;rw[World.size_alloc];omega) rfl (Bxs.new _ _ _) rfl ?_))
   intro a9 c9 w9 hot hle hg hb9;have hal:Below wr.heap.size wr (wr.alloc (.cells (TV.cells YS).toArray 71)):=zk.alloc zj _;have HOA:=OT.below TR.o.row hal;rw[HTL.o] at hot hle ⊢;have TP:=qh (show TwP w w9 w.heap.size ⟨a9,k,c9⟩ ts us from⟨hot,HN.o.symm,TR.o.len,fun i t v h1 h2=>((TR.o.each i t v h1 h2).below hal).grown HOA hg,TR.o.ap⟩);have KG9:=qh (KG.o.trans (hb9.ofAlloc KG.o.size))
   have hl1:(k:Int)<=(c9:Int):=by omega
   have hl2:k<=c9:=by omega
   clear hot hle hg hb9 hal HOA;go_wp2_with fail
   go_ret;exact⟨⟨a9,k,c9⟩,ts,rfl,rfl,TP.o,KG9.o⟩

end Pol
end Go.Proofs.YtgkkbkoiaccmfaaGreatDoor
