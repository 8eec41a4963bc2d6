/-
  Sums that the references make: a row of terms of their own, numbers' lists of their own; one term more behind.
-/
import Derived.Test.YtgkkbkoiaccmfaaGreatDoorPzNP
set_option linter.unusedSimpArgs false
set_option linter.unusedVariables false
set_option maxHeartbeats 16000000
set_option maxRecDepth 100000
namespace Go.Proofs.YtgkkbkoiaccmfaaGreatDoor
namespace Pol
open Go.RowKit Go.Sort Limb
theorem Vo (x:PV) (L:List TO) (k0:Nat) (w:World) (h:UB w x L) (hn:x.n<=1000000000) (hk:k0<=L.length) (hok:∀ i,i<k0->Ok1 L i) (hbad:k0<L.length->¬Ok1 L k0) :
  Calls Tryz.prog 54 #[x.v] w fun e w'=>e=.returned (.bool (decide (k0=L.length)))/\Below w.heap.size w w':=by
 obtain⟨xa,xn,xc⟩:=x;have HLN:=qh (show L.length=xn from h.2.1);have HN:=qh (show xn<=1000000000 from hn);have HR:=qh h;have HK0:=qh hk;have HOK:=qh hok;have HBAD:=qh hbad;have KG:=qh (Below.refl w.heap.size w);obtain⟨bv,hbv⟩:∃ b,b=decide (k0=L.length):=⟨_,rfl⟩;have HBV:=qh hbv;rw[<- hbv];clear h hk hok hbad hn hbv;change Calls Tryz.prog 54 #[.slice xa xn xc] w _;go_enter Tryz.func54,Tryz.ntmps54;go_wp2_with fail
 go_loopw [3] (fun i wr=>∃ k:Nat,k<=k0/\i=.int .i64 k/\Below w.heap.size w wr) (fun i _=>xn-(intOf i).toNat)
 case atStart=>exact⟨0,Nat.zero_le _,rfl,KG.o⟩
 case round =>
  obtain⟨k,hkk,rfl,hb0⟩:=hrel;have KG:=qh hb0;have HKK0:=qh hkk;clear hb0 hkk;by_cases hkl:k<xn
  ·have HKL:=qh hkl
   have hkl2:(k:Int)<(xn:Int):=by omega
   obtain⟨pb,po,rfl,hre⟩:=(HR.o.below KG.o).1.one (fun h=>by have h1:=HLN.o;rw[List.map_eq_nil_iff] at h;rw[h] at h1;simp at h1;omega);obtain⟨e,he⟩:∃ e,L[k]?=some e:=⟨_,List.getElem?_eq_getElem (by rw[HLN.o];exact hkl)⟩;obtain⟨t,o⟩:=e;have E1:=qh (hre k t (by rw[List.getElem?_map,he];rfl));have HRE:=qh hre;have HE:=qh he;have HTO:=qh ((HR.o.below KG.o).2.2.2.1 _ (List.mem_of_getElem? he));have HLF:=qh (show LF t.c 900000 from HR.o.2.2.2.2.2 _ (List.mem_of_getElem? he));have HS1:=qh (show t.m.Small from HR.o.2.2.2.2.1 _ (List.mem_of_getElem? he));clear hre he hkl
   cases o with
   | none =>
    have NF:=qh (show BF wr t.c from HTO.o)
    have HEND:=qh (show false=bv by
     rw[HBV.o];refine(zo fun hh=>?_).symm;obtain⟨e',q',h1,h2,-⟩:=HOK.o k (by rw[hh,HLN.o];exact HKL.o);rw[HE.o] at h1
     cases h1
     cases h2)
    clear HTO
    go_upto_region 4 with (fail)
    refine FS.Jb 34 [] (FS.JM [(5,FS.Sp.know (.bool false))])
     (fun w'=>Below wr.heap.size wr w') (by kernel_rfl) (by kernel_rfl) (by kernel_rfl)
     (FS.Jd (FS.Sp.Jl _ _) (FS.Jk)) (fun _ _ h hb=>h.trans (hb.mono h.size)) (zk.drew) ?_
    simp only[zu,zi,ze,zx,zy,zv,zw]
    iterate 5
     refine FS.Jc rfl rfl rfl ?_ (fun w' hw'=>?_) ?_;rotate_left
     ·have hb':=hw'.world;have hn:=HKL.o;obtain⟨hs0,hs1,hs2,hs3,hs4,hs5,hs6,hs7⟩:=(E1.o.below hb').eight;clear hw';go_simp
      try rfl
     conv=>arg 10;simp only[Act.put,zq0,zq1,zq2]
    refine FS.Jg rfl rfl rfl (fun w' hw'=>?_) ?_
    ·have hb':=hw'.world;refine FS.Jp (FS.PK (.bool false)) ?_ (fun _ _ h=>h.post);go_simp;have CT:=(show Calls Tryz.prog 128 #[.agg #[.bool t.c.t.s,.slice t.c.t.a t.c.t.n t.c.t.c,.bool t.c.l.s,.slice t.c.l.a t.c.l.n t.c.l.c]] w' _ from rcheckVB (x:=t.c) (NF.o.below hb') HLF.o);refine CT.mono ?_;rintro e w'' ⟨rfl,hb⟩;exact⟨_,rfl,rfl,hb⟩
    rintro _ rfl
    conv=>arg 10;simp only[Act.put,zq0,zq1,zq2]
    iterate 2
     refine FS.Jc rfl rfl rfl ?_ (fun w' hw'=>?_) ?_;rotate_left
     ·have hb':=hw'.world;skip;clear hw';go_simp
      try rfl
     conv=>arg 10;simp only[Act.put,zq0,zq1,zq2]
    iterate 7
     refine FS.Qz (by rfl) rfl ?_
     conv=>arg 10;simp only[Act.put,zq0,zq1,zq2]
    iterate 2
     refine FS.Jc rfl rfl rfl ?_ (fun w' hw'=>?_) ?_;rotate_left
     ·have hb':=hw'.world;skip;clear hw';go_simp
      try rfl
     conv=>arg 10;simp only[Act.put,zq0,zq1,zq2]
    iterate 17
     refine FS.Qz (by rfl) rfl ?_
     conv=>arg 10;simp only[Act.put,zq0,zq1,zq2]
    refine FS.Jn (fun w101 hb hF=>?_);clear hF;have KG:=qk KG hb;clear hb;go_wp2_with fail
    go_ret
    exact⟨by rw[HEND.o] <;> rfl,KG.o⟩
   | some q =>
    have NF:=qh (show KF wr t.c q from HTO.o);by_cases hq:q=0
    ·have HSG:=qh (q_num.2 hq)
     have HEND:=qh (show false=bv by
      rw[HBV.o];refine(zo fun hh=>?_).symm;obtain⟨e',q',h1,h2,h3,-⟩:=HOK.o k (by rw[hh,HLN.o];exact HKL.o);rw[HE.o] at h1
      cases h1
      cases h2
      exact h3 hq)
     clear HTO hq
     go_upto_region 4 with (fail)
     refine FS.Jb 34 [] (FS.JM [(5,FS.Sp.know (.bool true)),(13,FS.Sp.know (.int .i64 0))])
      (fun w'=>Below wr.heap.size wr w') (by kernel_rfl) (by kernel_rfl) (by kernel_rfl)
      (FS.Jd (FS.Sp.Jl _ _) (FS.Jd (FS.Sp.Jl _ _) (FS.Jk))) (fun _ _ h hb=>h.trans (hb.mono h.size)) (zk.drew) ?_
     simp only[zu,zi,ze,zx,zy,zv,zw]
     iterate 5
      refine FS.Jc rfl rfl rfl ?_ (fun w' hw'=>?_) ?_;rotate_left
      ·have hb':=hw'.world;have hn:=HKL.o;obtain⟨hs0,hs1,hs2,hs3,hs4,hs5,hs6,hs7⟩:=(E1.o.below hb').eight;clear hw';go_simp
       try rfl
      conv=>arg 10;simp only[Act.put,zq0,zq1,zq2]
     refine FS.Jg rfl rfl rfl (fun w' hw'=>?_) ?_
     ·have hb':=hw'.world;refine FS.Jp (FS.PK (.bool true)) ?_ (fun _ _ h=>h.post);go_simp;have CT:=(show Calls Tryz.prog 128 #[.agg #[.bool t.c.t.s,.slice t.c.t.a t.c.t.n t.c.t.c,.bool t.c.l.s,.slice t.c.l.a t.c.l.n t.c.l.c]] w' _ from Vn (x:=t.c) (NF.o.below hb') HLF.o);refine CT.mono ?_;rintro e w'' ⟨rfl,hb⟩;exact⟨_,rfl,rfl,hb⟩
     rintro _ rfl
     conv=>arg 10;simp only[Act.put,zq0,zq1,zq2]
     iterate 2
      refine FS.Jc rfl rfl rfl ?_ (fun w' hw'=>?_) ?_;rotate_left
      ·have hb':=hw'.world;skip;clear hw';go_simp
       try rfl
      conv=>arg 10;simp only[Act.put,zq0,zq1,zq2]
     iterate 5
      refine FS.Jm (by rfl) rfl rfl ?_ (fun w' hw'=>?_) ?_;rotate_left
      ·have hb':=hw'.world;have hn:=HKL.o;obtain⟨hs0,hs1,hs2,hs3,hs4,hs5,hs6,hs7⟩:=(E1.o.below hb').eight;clear hw';go_simp
       try rfl
      conv=>arg 10;simp only[Act.put,zq0,zq1,zq2]
     refine FS.JI (by rfl) rfl rfl (fun w' hw'=>?_) ?_
     ·have hb':=hw'.world;refine FS.Jp (FS.PK (.int .i64 0)) ?_ (fun _ _ h=>h.post);go_simp;have CT:=(show Calls Tryz.prog 77 #[.agg #[.bool t.c.t.s,.slice t.c.t.a t.c.t.n t.c.t.c,.bool t.c.l.s,.slice t.c.l.a t.c.l.n t.c.l.c]] w' _ from VL (x:=t.c) (NF.o.below hb').any HLF.o);rw[show Js q.num 0=0 from HSG.o] at CT;refine CT.mono ?_;rintro e w'' ⟨rfl,hb⟩;exact⟨_,rfl,rfl,hb⟩
     rintro _ rfl
     conv=>arg 10;simp only[Act.put,zq0,zq1,zq2]
     refine FS.Jm (by rfl) rfl rfl ?_ (fun w' hw'=>?_) ?_;rotate_left
     ·have hb':=hw'.world;skip;clear hw';go_simp
      try rfl
     conv=>arg 10;simp only[Act.put,zq0,zq1,zq2]
     iterate 2
      refine FS.Jc rfl rfl rfl ?_ (fun w' hw'=>?_) ?_;rotate_left
      ·have hb':=hw'.world;skip;clear hw';go_simp
       try rfl
      conv=>arg 10;simp only[Act.put,zq0,zq1,zq2]
     iterate 17
      refine FS.Qz (by rfl) rfl ?_
      conv=>arg 10;simp only[Act.put,zq0,zq1,zq2]
     refine FS.Jn (fun w102 hb hF=>?_);clear hF;have KG:=qk KG hb;clear hb;go_wp2_with fail
     go_ret;exact⟨by rw[HEND.o] <;> rfl,KG.o⟩
    ·obtain⟨sg,hsg⟩:∃ c,c=Js q.num 0:=⟨_,rfl⟩;have HSG:=qh hsg.symm
     have gsg:(sg==0)=false:=by
      rw[hsg]
      simpa using fun h=>hq (q_num.1 h)
     have HQ:=qh hq;clear hsg hq HTO
     rcases Nat.eq_zero_or_pos k with h0 | h0
     ·have HKK:=qh (show k<k0 from Nat.lt_of_le_of_ne HKK0.o fun hh=>HBAD.o (by rw[<- hh,HLN.o];exact HKL.o) (by rw[<- hh];exact⟨_,q,HE.o,rfl,HQ.o,fun h=>by omega⟩))
      have gk2:¬(0<(k:Int)):=by omega
      have gk3:¬(0<k):=by omega
      clear h0
      go_upto_region 4 with (fail)
      refine FS.Jb 34 [] (FS.JM [(5,FS.Sp.know (.bool true)),(13,FS.Sp.know (.int .i64 sg))])
       (fun w'=>Below wr.heap.size wr w') (by kernel_rfl) (by kernel_rfl) (by kernel_rfl)
       (FS.Jd (FS.Sp.Jl _ _) (FS.Jd (FS.Sp.Jl _ _) (FS.Jk))) (fun _ _ h hb=>h.trans (hb.mono h.size)) (zk.drew) ?_
      simp only[zu,zi,ze,zx,zy,zv,zw]
      iterate 5
       refine FS.Jc rfl rfl rfl ?_ (fun w' hw'=>?_) ?_;rotate_left
       ·have hb':=hw'.world;have hn:=HKL.o;obtain⟨hs0,hs1,hs2,hs3,hs4,hs5,hs6,hs7⟩:=(E1.o.below hb').eight;clear hw';go_simp
        try rfl
       conv=>arg 10;simp only[Act.put,zq0,zq1,zq2]
      refine FS.Jg rfl rfl rfl (fun w' hw'=>?_) ?_
      ·have hb':=hw'.world;refine FS.Jp (FS.PK (.bool true)) ?_ (fun _ _ h=>h.post);go_simp;have CT:=(show Calls Tryz.prog 128 #[.agg #[.bool t.c.t.s,.slice t.c.t.a t.c.t.n t.c.t.c,.bool t.c.l.s,.slice t.c.l.a t.c.l.n t.c.l.c]] w' _ from Vn (x:=t.c) (NF.o.below hb') HLF.o);refine CT.mono ?_;rintro e w'' ⟨rfl,hb⟩;exact⟨_,rfl,rfl,hb⟩
      rintro _ rfl
      conv=>arg 10;simp only[Act.put,zq0,zq1,zq2]
      iterate 2
       refine FS.Jc rfl rfl rfl ?_ (fun w' hw'=>?_) ?_;rotate_left
       ·have hb':=hw'.world;skip;clear hw';go_simp
        try rfl
       conv=>arg 10;simp only[Act.put,zq0,zq1,zq2]
      iterate 5
       refine FS.Jm (by rfl) rfl rfl ?_ (fun w' hw'=>?_) ?_;rotate_left
       ·have hb':=hw'.world;have hn:=HKL.o;obtain⟨hs0,hs1,hs2,hs3,hs4,hs5,hs6,hs7⟩:=(E1.o.below hb').eight;clear hw';go_simp
        try rfl
       conv=>arg 10;simp only[Act.put,zq0,zq1,zq2]
      refine FS.JI (by rfl) rfl rfl (fun w' hw'=>?_) ?_
      ·have hb':=hw'.world;refine FS.Jp (FS.PK (.int .i64 sg)) ?_ (fun _ _ h=>h.post);go_simp;have CT:=(show Calls Tryz.prog 77 #[.agg #[.bool t.c.t.s,.slice t.c.t.a t.c.t.n t.c.t.c,.bool t.c.l.s,.slice t.c.l.a t.c.l.n t.c.l.c]] w' _ from VL (x:=t.c) (NF.o.below hb').any HLF.o);rw[show Js q.num 0=sg from HSG.o] at CT;refine CT.mono ?_;rintro e w'' ⟨rfl,hb⟩;exact⟨_,rfl,rfl,hb⟩
      rintro _ rfl
      conv=>arg 10;simp only[Act.put,zq0,zq1,zq2]
      refine FS.Jm (by rfl) rfl rfl ?_ (fun w' hw'=>?_) ?_;rotate_left
      ·have hb':=hw'.world;skip;clear hw';go_simp
       try rfl
      conv=>arg 10;simp only[Act.put,zq0,zq1,zq2]
      iterate 2
       refine FS.Jc rfl rfl rfl ?_ (fun w' hw'=>?_) ?_;rotate_left
       ·have hb':=hw'.world;skip;clear hw';go_simp
        try rfl
       conv=>arg 10;simp only[Act.put,zq0,zq1,zq2]
      iterate 3
       refine FS.Jm (by rfl) rfl rfl ?_ (fun w' hw'=>?_) ?_;rotate_left
       ·have hb':=hw'.world;skip;clear hw';go_simp
        try rfl
       conv=>arg 10;simp only[Act.put,zq0,zq1,zq2]
      iterate 13
       refine FS.Qz (by rfl) rfl ?_
       conv=>arg 10;simp only[Act.put,zq0,zq1,zq2]
      refine FS.Jm (by rfl) rfl rfl ?_ (fun w' hw'=>?_) ?_;rotate_left
      ·have hb':=hw'.world;skip;clear hw';go_simp
       try rfl
      conv=>arg 10;simp only[Act.put,zq0,zq1,zq2]
      refine FS.Jn (fun w103 hb hF=>?_);clear hF;have KG:=qk KG hb;clear hb;have ek1:IntKind.i64.wrap ((k:Int)+1)=(k:Int)+1:=IntWalk.i64_in _ (by have:=HKL.o;have:=HN.o;omega);go_wp2_with fail
      go_roundw
      case rel=>exact⟨k+1,by have:=HKK.o;omega,rfl,KG.o⟩
      case measure=>simp[intOf];have:=HKL.o;omega
     ·obtain⟨j,hj⟩:∃ j,k=j+1:=⟨k-1,by omega⟩
      have gk2:0<(k:Int):=by omega
      have gk3:0<k:=by omega
      have EJW:=qh (show IntKind.i64.wrap ((k:Int)-1)=(j:Int) by have:=HKL.o;have:=HN.o;rw[IntWalk.i64_in _ (by omega)];omega);have HJN:=qh (show j<xn by have:=HKL.o;omega);have HJK:=qh hj;obtain⟨d,hd⟩:∃ d,L[j]?=some d:=⟨_,List.getElem?_eq_getElem (by rw[HLN.o];exact HJN.o)⟩;obtain⟨tj,oj⟩:=d;have HD:=qh hd;have EJ:=qh (HRE.o j tj (by rw[List.getElem?_map,hd];rfl));have HS2:=qh (show tj.m.Small from HR.o.2.2.2.2.1 _ (List.mem_of_getElem? hd));obtain⟨fv,hfv⟩:∃ c,c=Mono.Js (Xa 0 tj.m) (Xa 0 t.m):=⟨_,rfl⟩;have HFV:=qh hfv.symm;clear hd h0 hj;by_cases hlt:t.m.lt tj.m
      ·have gf2:¬(fv<=0):=by rw[hfv];exact Int.not_le.2 (Zf.2 ((je9 HS1.o HS2.o).1 hlt))
       have HKK:=qh (show k<k0 from Nat.lt_of_le_of_ne HKK0.o fun hh=>HBAD.o (by rw[<- hh,HLN.o];exact HKL.o) (by rw[<- hh];exact⟨_,q,HE.o,rfl,HQ.o,fun _=>⟨_,by rw[HJK.o];exact HD.o,hlt⟩⟩));clear hfv hlt
       go_upto_region 4 with (fail)
       refine FS.Jb 34 [] (FS.JM [(5,FS.Sp.know (.bool true)),(13,FS.Sp.know (.int .i64 sg)),(31,FS.Sp.know (.int .i64 fv))])
        (fun w'=>Below wr.heap.size wr w') (by kernel_rfl) (by kernel_rfl) (by kernel_rfl)
        (FS.Jd (FS.Sp.Jl _ _) (FS.Jd (FS.Sp.Jl _ _) (FS.Jd (FS.Sp.Jl _ _) (FS.Jk)))) (fun _ _ h hb=>h.trans (hb.mono h.size)) (zk.drew) ?_
       simp only[zu,zi,ze,zx,zy,zv,zw]
       iterate 5
        refine FS.Jc rfl rfl rfl ?_ (fun w' hw'=>?_) ?_;rotate_left
        ·have hb':=hw'.world;have hn:=HKL.o;obtain⟨hs0,hs1,hs2,hs3,hs4,hs5,hs6,hs7⟩:=(E1.o.below hb').eight;clear hw';go_simp
         try rfl
        conv=>arg 10;simp only[Act.put,zq0,zq1,zq2]
       refine FS.Jg rfl rfl rfl (fun w' hw'=>?_) ?_
       ·have hb':=hw'.world;refine FS.Jp (FS.PK (.bool true)) ?_ (fun _ _ h=>h.post);go_simp;have CT:=(show Calls Tryz.prog 128 #[.agg #[.bool t.c.t.s,.slice t.c.t.a t.c.t.n t.c.t.c,.bool t.c.l.s,.slice t.c.l.a t.c.l.n t.c.l.c]] w' _ from Vn (x:=t.c) (NF.o.below hb') HLF.o);refine CT.mono ?_;rintro e w'' ⟨rfl,hb⟩;exact⟨_,rfl,rfl,hb⟩
       rintro _ rfl
       conv=>arg 10;simp only[Act.put,zq0,zq1,zq2]
       iterate 2
        refine FS.Jc rfl rfl rfl ?_ (fun w' hw'=>?_) ?_;rotate_left
        ·have hb':=hw'.world;skip;clear hw';go_simp
         try rfl
        conv=>arg 10;simp only[Act.put,zq0,zq1,zq2]
       iterate 5
        refine FS.Jm (by rfl) rfl rfl ?_ (fun w' hw'=>?_) ?_;rotate_left
        ·have hb':=hw'.world;have hn:=HKL.o;obtain⟨hs0,hs1,hs2,hs3,hs4,hs5,hs6,hs7⟩:=(E1.o.below hb').eight;clear hw';go_simp
         try rfl
        conv=>arg 10;simp only[Act.put,zq0,zq1,zq2]
       refine FS.JI (by rfl) rfl rfl (fun w' hw'=>?_) ?_
       ·have hb':=hw'.world;refine FS.Jp (FS.PK (.int .i64 sg)) ?_ (fun _ _ h=>h.post);go_simp;have CT:=(show Calls Tryz.prog 77 #[.agg #[.bool t.c.t.s,.slice t.c.t.a t.c.t.n t.c.t.c,.bool t.c.l.s,.slice t.c.l.a t.c.l.n t.c.l.c]] w' _ from VL (x:=t.c) (NF.o.below hb').any HLF.o);rw[show Js q.num 0=sg from HSG.o] at CT;refine CT.mono ?_;rintro e w'' ⟨rfl,hb⟩;exact⟨_,rfl,rfl,hb⟩
       rintro _ rfl
       conv=>arg 10;simp only[Act.put,zq0,zq1,zq2]
       refine FS.Jm (by rfl) rfl rfl ?_ (fun w' hw'=>?_) ?_;rotate_left
       ·have hb':=hw'.world;skip;clear hw';go_simp
        try rfl
       conv=>arg 10;simp only[Act.put,zq0,zq1,zq2]
       iterate 2
        refine FS.Jc rfl rfl rfl ?_ (fun w' hw'=>?_) ?_;rotate_left
        ·have hb':=hw'.world;skip;clear hw';go_simp
         try rfl
        conv=>arg 10;simp only[Act.put,zq0,zq1,zq2]
       iterate 14
        refine FS.Jm (by rfl) rfl rfl ?_ (fun w' hw'=>?_) ?_;rotate_left
        ·have hb':=hw'.world;have hj:=EJW.o;have hn:=HJN.o;obtain⟨hs0,hs1,hs2,hs3,hs4,hs5,hs6,hs7⟩:=(EJ.o.below hb').eight;have hn:=HKL.o;obtain⟨hs0,hs1,hs2,hs3,hs4,hs5,hs6,hs7⟩:=(E1.o.below hb').eight;clear hw';go_simp
         try rfl
        conv=>arg 10;simp only[Act.put,zq0,zq1,zq2]
       refine FS.JI (by rfl) rfl rfl (fun w' hw'=>?_) ?_
       ·have hb':=hw'.world;refine FS.Jp (FS.PK (.int .i64 fv)) ?_ (fun _ _ h=>h.post);go_simp;have CT:=(show Calls Tryz.prog 151 #[.int .u8 0,.agg #[.int .u16 tj.m.x,.int .u16 tj.m.y,.int .u16 tj.m.z,.int .u16 tj.m.t],.agg #[.int .u16 t.m.x,.int .u16 t.m.y,.int .u16 t.m.z,.int .u16 t.m.t]] w' _ from rcmpV 0 tj.m t.m w' HS2.o HS1.o);rw[show Mono.Js (Xa 0 tj.m) (Xa 0 t.m)=fv from HFV.o] at CT;refine CT.mono ?_;rintro e w'' ⟨rfl,hb⟩;exact⟨_,rfl,rfl,hb⟩
       rintro _ rfl
       conv=>arg 10;simp only[Act.put,zq0,zq1,zq2]
       iterate 2
        refine FS.Jm (by rfl) rfl rfl ?_ (fun w' hw'=>?_) ?_;rotate_left
        ·have hb':=hw'.world;skip;clear hw';go_simp
         try rfl
        conv=>arg 10;simp only[Act.put,zq0,zq1,zq2]
       refine FS.Jn (fun w104 hb hF=>?_);clear hF;have KG:=qk KG hb;clear hb;have ek1:IntKind.i64.wrap ((k:Int)+1)=(k:Int)+1:=IntWalk.i64_in _ (by have:=HKL.o;have:=HN.o;omega);go_wp2_with fail
       go_roundw
       case rel=>exact⟨k+1,by have:=HKK.o;omega,rfl,KG.o⟩
       case measure=>simp[intOf];have:=HKL.o;omega
      ·have gf2:fv<=0:=by rw[hfv];exact Int.not_lt.1 fun h=>hlt ((je9 HS1.o HS2.o).2 (Zf.1 h))
       have HEND:=qh (show false=bv by
        rw[HBV.o];refine(zo fun hh=>?_).symm;obtain⟨e',q',h1,h2,h3,h4⟩:=HOK.o k (by rw[hh,HLN.o];exact HKL.o);obtain⟨d',h5,h6⟩:=h4 (by have:=HJK.o;omega);rw[HE.o] at h1
        cases h1
        rw[show k-1=j by have:=HJK.o;omega,HD.o] at h5
        cases h5
        exact hlt h6)
       clear hfv hlt
       go_upto_region 4 with (fail)
       refine FS.Jb 34 [] (FS.JM [(5,FS.Sp.know (.bool true)),(13,FS.Sp.know (.int .i64 sg)),(31,FS.Sp.know (.int .i64 fv))])
        (fun w'=>Below wr.heap.size wr w') (by kernel_rfl) (by kernel_rfl) (by kernel_rfl)
        (FS.Jd (FS.Sp.Jl _ _) (FS.Jd (FS.Sp.Jl _ _) (FS.Jd (FS.Sp.Jl _ _) (FS.Jk)))) (fun _ _ h hb=>h.trans (hb.mono h.size)) (zk.drew) ?_
       simp only[zu,zi,ze,zx,zy,zv,zw]
       iterate 5
        refine FS.Jc rfl rfl rfl ?_ (fun w' hw'=>?_) ?_;rotate_left
        ·have hb':=hw'.world;have hn:=HKL.o;obtain⟨hs0,hs1,hs2,hs3,hs4,hs5,hs6,hs7⟩:=(E1.o.below hb').eight;clear hw';go_simp
         try rfl
        conv=>arg 10;simp only[Act.put,zq0,zq1,zq2]
       refine FS.Jg rfl rfl rfl (fun w' hw'=>?_) ?_
       ·have hb':=hw'.world;refine FS.Jp (FS.PK (.bool true)) ?_ (fun _ _ h=>h.post);go_simp;have CT:=(show Calls Tryz.prog 128 #[.agg #[.bool t.c.t.s,.slice t.c.t.a t.c.t.n t.c.t.c,.bool t.c.l.s,.slice t.c.l.a t.c.l.n t.c.l.c]] w' _ from Vn (x:=t.c) (NF.o.below hb') HLF.o);refine CT.mono ?_;rintro e w'' ⟨rfl,hb⟩;exact⟨_,rfl,rfl,hb⟩
       rintro _ rfl
       conv=>arg 10;simp only[Act.put,zq0,zq1,zq2]
       iterate 2
        refine FS.Jc rfl rfl rfl ?_ (fun w' hw'=>?_) ?_;rotate_left
        ·have hb':=hw'.world;skip;clear hw';go_simp
         try rfl
        conv=>arg 10;simp only[Act.put,zq0,zq1,zq2]
       iterate 5
        refine FS.Jm (by rfl) rfl rfl ?_ (fun w' hw'=>?_) ?_;rotate_left
        ·have hb':=hw'.world;have hn:=HKL.o;obtain⟨hs0,hs1,hs2,hs3,hs4,hs5,hs6,hs7⟩:=(E1.o.below hb').eight;clear hw';go_simp
         try rfl
        conv=>arg 10;simp only[Act.put,zq0,zq1,zq2]
       refine FS.JI (by rfl) rfl rfl (fun w' hw'=>?_) ?_
       ·have hb':=hw'.world;refine FS.Jp (FS.PK (.int .i64 sg)) ?_ (fun _ _ h=>h.post);go_simp;have CT:=(show Calls Tryz.prog 77 #[.agg #[.bool t.c.t.s,.slice t.c.t.a t.c.t.n t.c.t.c,.bool t.c.l.s,.slice t.c.l.a t.c.l.n t.c.l.c]] w' _ from VL (x:=t.c) (NF.o.below hb').any HLF.o);rw[show Js q.num 0=sg from HSG.o] at CT;refine CT.mono ?_;rintro e w'' ⟨rfl,hb⟩;exact⟨_,rfl,rfl,hb⟩
       rintro _ rfl
       conv=>arg 10;simp only[Act.put,zq0,zq1,zq2]
       refine FS.Jm (by rfl) rfl rfl ?_ (fun w' hw'=>?_) ?_;rotate_left
       ·have hb':=hw'.world;skip;clear hw';go_simp
        try rfl
       conv=>arg 10;simp only[Act.put,zq0,zq1,zq2]
       iterate 2
        refine FS.Jc rfl rfl rfl ?_ (fun w' hw'=>?_) ?_;rotate_left
        ·have hb':=hw'.world;skip;clear hw';go_simp
         try rfl
        conv=>arg 10;simp only[Act.put,zq0,zq1,zq2]
       iterate 14
        refine FS.Jm (by rfl) rfl rfl ?_ (fun w' hw'=>?_) ?_;rotate_left
        ·have hb':=hw'.world;have hj:=EJW.o;have hn:=HJN.o;obtain⟨hs0,hs1,hs2,hs3,hs4,hs5,hs6,hs7⟩:=(EJ.o.below hb').eight;have hn:=HKL.o;obtain⟨hs0,hs1,hs2,hs3,hs4,hs5,hs6,hs7⟩:=(E1.o.below hb').eight;clear hw';go_simp
         try rfl
        conv=>arg 10;simp only[Act.put,zq0,zq1,zq2]
       refine FS.JI (by rfl) rfl rfl (fun w' hw'=>?_) ?_
       ·have hb':=hw'.world;refine FS.Jp (FS.PK (.int .i64 fv)) ?_ (fun _ _ h=>h.post);go_simp;have CT:=(show Calls Tryz.prog 151 #[.int .u8 0,.agg #[.int .u16 tj.m.x,.int .u16 tj.m.y,.int .u16 tj.m.z,.int .u16 tj.m.t],.agg #[.int .u16 t.m.x,.int .u16 t.m.y,.int .u16 t.m.z,.int .u16 t.m.t]] w' _ from rcmpV 0 tj.m t.m w' HS2.o HS1.o);rw[show Mono.Js (Xa 0 tj.m) (Xa 0 t.m)=fv from HFV.o] at CT;refine CT.mono ?_;rintro e w'' ⟨rfl,hb⟩;exact⟨_,rfl,rfl,hb⟩
       rintro _ rfl
       conv=>arg 10;simp only[Act.put,zq0,zq1,zq2]
       iterate 2
        refine FS.Jm (by rfl) rfl rfl ?_ (fun w' hw'=>?_) ?_;rotate_left
        ·have hb':=hw'.world;skip;clear hw';go_simp
         try rfl
        conv=>arg 10;simp only[Act.put,zq0,zq1,zq2]
       refine FS.Jn (fun w105 hb hF=>?_);clear hF;have KG:=qk KG hb;clear hb;go_wp2_with fail
       go_ret;exact⟨by rw[HEND.o] <;> rfl,KG.o⟩
  ·have HEND:=qh (show true=bv by
    rw[HBV.o]
    exact(decide_eq_true (by have:=HKK0.o;have:=HK0.o;have:=HLN.o;omega)).symm)
   have hge:¬((k:Int)<(xn:Int)):=by omega
   clear hkl;go_wp2_with fail
   go_ret;exact⟨by rw[HEND.o] <;> rfl,KG.o⟩
theorem rcheck_k {w:World} {x:PV} {P:List Tm} (h:KP w x P) (hq:∀ t∈P,LQ t.2 900000) (hn:x.n<=1000000000):Calls Tryz.prog 54 #[x.v] w fun e w'=>e=.returned (.bool true)/\Below w.heap.size w w':=by
 obtain⟨K,h1,h2,h3,h4⟩:=h.ex
 have hR:UB w x (K.map fun e=>(e.1,some e.2)):=by
  refine⟨by rw[List.map_map];exact h1,by rw[List.length_map];exact h2,h.le,fun e he=>?_,fun e he=>?_,fun e he=>?_⟩
  ·obtain⟨f,hf,rfl⟩:=List.mem_map.1 he;exact h3 f hf
  ·obtain⟨f,hf,rfl⟩:=List.mem_map.1 he;exact h.small (tm f) (by rw[<- h4];exact List.mem_map_of_mem hf)
  ·obtain⟨f,hf,rfl⟩:=List.mem_map.1 he;exact(h3 f hf).len (hq (tm f) (by rw[<- h4];exact List.mem_map_of_mem hf)) zj
 have hok:okP (K.map fun e=>(e.1,some e.2)):=by
  refine⟨P,?_,h.canon⟩;rw[Ze];refine⟨by rw[<- h4,List.length_map,List.length_map],fun i e he=>?_⟩;rw[List.getElem?_map] at he
  cases hk:K[i]? with
  | none=>rw[hk] at he;cases he
  | some f =>
   rw[hk] at he
   obtain rfl:(f.1,some f.2)=e:=by simpa using he
   exact⟨f.2,rfl,by rw[<- h4,List.getElem?_map,hk];rfl⟩
 have g:=Vo x _ (K.map fun e=>(e.1,some e.2)).length w hR hn zj ((Vg _).1 hok) (fun h=>absurd h (by omega));rwa [decide_eq_true rfl] at g
theorem rcheck_b {w:World} {x:PV} (h:BP w x) (hn:x.n<=1000000000):Calls Tryz.prog 54 #[x.v] w fun e w'=>e=.returned (.bool false)/\Below w.heap.size w w':=by
 obtain⟨L,hR,hk⟩:=h;rw[Vg] at hk
 have first:∀ n,n<=L.length->(∀ i,i<n->Ok1 L i)\/∃ k0,k0<n/\(∀ i,i<k0->Ok1 L i)/\¬Ok1 L k0:=by
  intro n
  induction n with
  | zero=>exact fun _=>Or.inl fun i hi=>by omega
  | succ n ih =>
   intro hn
   rcases ih (by omega) with h1 | ⟨k0,h1,h2⟩
   ·by_cases h2:Ok1 L n
    ·exact Or.inl fun i hi=>(Nat.lt_or_eq_of_le (Nat.le_of_lt_succ hi)).elim (h1 i) (fun e=>e▸h2)
    ·exact Or.inr ⟨n,by omega,h1,h2⟩
   ·exact Or.inr ⟨k0,by omega,h2⟩
 rcases first L.length zj with h1 | ⟨k0,h1,h2,h3⟩
 ·exact absurd h1 hk
 ·have g:=Vo x L k0 w hR hn (Nat.le_of_lt h1) h2 (fun _=>h3);rwa [zo (by omega)] at g
theorem rfit_k {w:World} {x:PV} {P:List Tm} (h:KP w x P) (hq:∀ t∈P,LQ t.2 900000) (hn:x.n<=1000000000):Calls Tryz.prog 79 #[x.v] w fun e w'=>e=.returned x.v/\Below w.heap.size w w':=by
 have C:=qh (rcheck_k h hq hn);go_enter Tryz.func79,Tryz.ntmps79;go_wp2_with fail
 refine C.o.mono ?_;rintro e w1 ⟨rfl,hb⟩;have HB:=qh hb;clear hb C;go_wp2_with fail
 go_ret;exact⟨rfl,HB.o⟩
theorem rfit_b {w:World} {x:PV} (h:BP w x) (hn:x.n<=1000000000):Calls Tryz.prog 79 #[x.v] w fun e w'=>e=.returned (.slice none 0 0)/\Below w.heap.size w w':=by
 have C:=qh (rcheck_b h hn);go_enter Tryz.func79,Tryz.ntmps79;go_wp2_with fail
 refine C.o.mono ?_;rintro e w1 ⟨rfl,hb⟩;have HB:=qh hb;clear hb C;go_wp2_with fail
 go_ret;exact⟨rfl,HB.o⟩
structure RS (w:World) (a:Option Addr) (ps:List PV):Prop where
 ex:ps≠[]->∃ b off,a=some ⟨b,off,none⟩/\∀ i p,ps[i]?=some p->w.cell? ⟨b,off+i,none⟩=some p.v
theorem RS.nil (w:World) (a:Option Addr):RS w a []:=⟨fun h=>absurd rfl h⟩
def pw (l:Nat->Rat) (m:Mo) (q:Rat):Nat->Rat
 | 0=>q
 | i+1=>pw l m q i*l i ^ m.at i
theorem pw_four (l:Nat->Rat) (m:Mo) (q:Rat):pw l m q 4=q*atM l m:=by
 show q*l 0 ^ m.x*l 1 ^ m.y*l 2 ^ m.z*l 3 ^ m.t=_;unfold atM;grind
theorem pw_lq {l:Nat->Rat} {m:Mo} {q:Rat} {kp kl E:Nat} (hq:LQ q kp) (hl:∀ i,LQ (l i) kl) (hm:∀ i,m.at i<=E):∀ i,LQ (pw l m q i) (kp+i*(E*kl+1))
 | 0=>hq.up (by omega)
 | i+1=>by
  have h1:=(Vm (hl i) (m.at i)).up (Nat.add_le_add_right (Nat.mul_le_mul_right kl (hm i)) 1);exact((pw_lq hq hl hm i).ls.mul h1.ls).lq (by rw[Nat.add_mul];omega) (by rw[Nat.add_mul];omega)
theorem ev_nq {f:Mo->Rat} {k:Nat}:∀ {L:List Tm},(∀ t∈L,LQ (t.2*f t.1) k)->ev L f=0\/∃ j,0<j/\j<=L.length/\NQ (ev L f) j k
 | [],_=>Or.inl rfl
 | t :: r,h=>by
  have h1:=NQ.one (h t (List.mem_cons_self ..));rw[JA]
  rcases ev_nq (L:=r) (f:=f) fun u hu=>h u (List.mem_cons_of_mem _ hu) with h2 | ⟨j,h3,h4,h5⟩
  ·rw[h2,Rat.add_zero];exact Or.inr ⟨1,by omega,by rw[List.length_cons];omega,h1⟩
  ·exact Or.inr ⟨1+j,by omega,by rw[List.length_cons];omega,h1.add h5 (by omega) h3⟩
theorem at_one (m:Mo) (i:Nat) (E:Nat) (h:m.le E):m.at i<=E:=by
 obtain⟨h1,h2,h3,h4⟩:=h;unfold Mo.at;split
 ·exact h1
 ·split
  ·exact h2
  ·split
   ·exact h3
   ·exact h4
def FB (w:World) (x:FV) (ok:Bool):Prop:=match ok with
 | true=>∃ q,KF w x q
 | false=>BF w x
structure B4 (w:World) (x0 x1 x2 x3:FV) (ok:Nat->Bool):Prop where
 k0:FB w x0 (ok 0)
 k1:FB w x1 (ok 1)
 k2:FB w x2 (ok 2)
 k3:FB w x3 (ok 3)
 l0:LF x0 900000
 l1:LF x1 900000
 l2:LF x2 900000
 l3:LF x3 900000
theorem DF.only {w w':World} {lo c:Nat} {x:FV} {q:Rat} {es:Array MapEntry} {k:Nat} (h:DF w lo x q) (ho:Only c w w') (hc:w.heap[c]?=some (.map es k)):DF w' lo x q :=
 h.kept fun b hb=>by
  obtain⟨cur,h1⟩:=DF.blkc h hb
  exact ho.2.2.2.2 b (lt_of_block h1) fun e=>by rw[e,hc] at h1;cases h1
theorem MK.only {w w':World} {lo b c:Nat} {L:List TE} {es:Array MapEntry} {k:Nat} (h:MK w lo b L) (ho:Only c w w') (hc:w.heap[c]?=some (.map es k)) (hne:b≠c):MK w' lo b L :=
 ⟨(ho.2.2.2.2 b h.lt hne).trans h.blk,h.ge,fun e he=>DF.only (h.df e he) ho hc,h.ap,h.keys,h.small⟩
theorem Z7 (A:List Tm) (t:Tm) (i k:Nat):VQ (A++[t]) i k=VQ A i k++(if t.1.at i=k then [(t.1.cut i,t.2)] else []):=by
 unfold VQ;rw[List.filter_append,List.map_append]
 congr 1
 by_cases h:t.1.at i=k
 ·rw[if_pos h,List.filter_cons_of_pos (by simpa using h)];rfl
 ·rw[if_neg h,List.filter_cons_of_neg (by simpa using h)];rfl
structure MR (w:World) (lo g d i:Nat) (A:List Tm) (bs:Nat->Option Nat) (Ms:Nat->List TE):Prop where
 row:w.rowIs g 123 (d+1) (fun k=>.map (bs k))
 nil:∀ k,k<=d->bs k=none->VQ A i k=[]
 got:∀ k b,k<=d->bs k=some b->MK w lo b (Ms k)/\∀ f,ev ((Ms k).map tm) f=ev (VQ A i k) f
 inj:∀ k j b,k<=d->j<=d->bs k=some b->bs j=some b->k=j
theorem MR.add {w w':World} {lo g d i b:Nat} {A:List Tm} {bs:Nat->Option Nat} {Ms:Nat->List TE} (h:MR w lo g d i A bs Ms) {m:Mo} {q:Rat} (hk:m.at i<=d) (hb:bs (m.at i)=some b) (ho:Only b w w')
  {L':List TE} (hM:MK w' lo b L') (hL:L'.map tm=KE (m.cut i) q ((Ms (m.at i)).map tm)):MR w' lo g d i (A++[(m,q)]) bs (fun k=>if k=m.at i then L' else Ms k) where
 row:=h.row.of_block (ho.2.2.2.2 g h.row.lt fun e=>by
  obtain⟨c,h1,_⟩:=h.row;rw[e,(h.got _ b hk hb).1.blk] at h1
  cases h1)
 nil k hkd h0:=by
  rw[Z7,h.nil k hkd h0,if_neg fun e=>by rw[<- e,show((m,q):Tm).1.at i=m.at i from rfl,hb] at h0;cases h0];rfl
 got k c hkd h1:=by
  by_cases e:k=m.at i
  ·subst e;obtain rfl:b=c:=Option.some.inj (hb.symm.trans h1);rw[if_pos rfl];refine⟨hM,fun f=>?_⟩;rw[hL,jal,(h.got _ b hk hb).2 f,Z7,if_pos rfl,Xt];show _=_+(q*f (m.cut i)+0);grind
  ·rw[if_neg e]
   have hne:c≠b:=fun hc=>e (h.inj k _ b hkd hk (by rw[h1,hc]) hb)
   refine⟨MK.only (h.got k c hkd h1).1 ho (h.got _ b hk hb).1.blk hne,fun f=>?_⟩;rw[Z7,if_neg fun hc=>e hc.symm,List.append_nil];exact(h.got k c hkd h1).2 f
 inj:=h.inj
structure PC (P:List Tm) (n k e:Nat):Prop where
 c:Canon P
 b:PB P n k e
theorem PC.up {P:List Tm} {n k e n' k' e':Nat} (h:PC P n k e) (hn:n<=n') (hk:k<=k') (he:e<=e'):PC P n' k' e':=⟨h.c,h.b.up hn hk he⟩
theorem PC.lq {P:List Tm} {n k e m:Nat} (h:PC P n k e) (hm:k<=m):∀ t∈P,LQ t.2 m:=fun t ht=>(h.b.lq t ht).up hm
theorem PC.nil (n k e:Nat):PC [] n k e:=⟨Canon.nil,PB.nil n k e⟩
theorem PC.add {P Q:List Tm} {n1 k1 e1 n2 k2 e2:Nat} (h1:PC P n1 k1 e1) (h2:PC Q n2 k2 e2) (k e:Nat) (a:k1<=k) (b:k2<=k) (c:e1<=e) (d:e2<=e):PC (addP P Q) (n1+n2) (2*k+1) e :=
 ⟨jc1 _ _,PB.add h1.c h2.c (h1.b.up zj a c) (h2.b.up zj b d)⟩
theorem PC.mul {P Q:List Tm} {n1 k1 e1 n2 k2 e2:Nat} (h1:PC P n1 k1 e1) (h2:PC Q n2 k2 e2):PC (Zw P Q) (n1*n2) (n1*(k1+k2+1)) (e1+e2):=⟨Xz _ _,PB.mulC h2.c h1.b h2.b⟩
theorem PC.scale {P:List Tm} {n k e k2:Nat} {c:Rat} (h:PC P n k e) (hc:LQ c k2):PC (Qc c P) n (k+k2) e:=⟨Q4 _ _,PB.scale h.c h.b hc⟩
theorem PC.of {q:Rat} {k:Nat} (h:LQ q k):PC (nf [(Mo.one,q)]) 1 (k+1) 0:=by
 have hb:PB [(Mo.one,q)] 1 k 0:=⟨zj,fun t ht=>by rw[List.mem_singleton.1 ht];exact h,fun t ht=>by rw[List.mem_singleton.1 ht];exact⟨zj,zj,zj,zj⟩⟩;have h1:=hb.nf;rw[Nat.one_mul] at h1;exact⟨Qb _,h1⟩
theorem PC.at {P:List Tm} {n k e kl:Nat} {l:Nat->Rat} (h:PC P n k e) (hl:∀ i,LQ (l i) kl):LQ (ev P (atM l)) ((n+1)*(k+4*(e*kl+1)+1)):=by
 have hq:∀ t∈P,LQ (t.2*atM l t.1) (k+4*(e*kl+1)):=fun t ht=>by
  have h1:=pw_lq (h.b.lq t ht) hl (fun i=>at_one t.1 i e (h.b.ex t ht)) 4;rwa [pw_four] at h1
 rcases ev_nq hq with h0 | ⟨j,hj0,hj,hn⟩
 ·rw[h0];exact lq_zero (Nat.mul_pos (Nat.succ_pos _) (Nat.succ_pos _))
 ·exact hn.lq (Nat.mul_le_mul_right _ (zm hj (Nat.le_succ_of_le h.b.len)))
theorem KP.n_le {w:World} {x:PV} {P:List Tm} {n k e:Nat} (h:KP w x P) (b:PC P n k e):x.n<=n:=by rw[h.len];exact b.b.len
theorem Yx.gr {w:World} {x:PV} {L:List TO} (h:Yx w x L):RT w x.a (L.map Prod.fst)/\(L.map Prod.fst).length=x.n:=⟨h.1,by rw[List.length_map];exact h.2.1⟩
theorem great1P {w:World} {g m:Nat} {x:PV} {L:List TO} (hb:Bxs w g 23 [x.v]) (h1:Yx w x L) (hm:m<=1000) :
  Calls Tryz.prog 10 #[.int .i64 m,.slice (some ⟨g,0,none⟩) 1 1] w (BR w (XH m (L.map Prod.fst))) :=
 (jdx g m 1 [(x,L.map Prod.fst)] w rfl (fun i e h=>by match i,h with | 0,h=>exact(Option.some.inj h)▸hb.ce 0) (fun e he=>by rw[List.mem_singleton.1 he];exact h1.gr) (by simp) hm).mono
  fun e w' ⟨b,g1,g2,g3⟩=>⟨b,g1,fun hb=>g2 hb _ (List.mem_singleton.2 rfl),g3⟩
theorem Yx.rawP {w:World} {x:PV} {L:List TO} {m:Nat} (h:Yx w x L) (hg:XH m (L.map Prod.fst)):UB w x L:=h.raw fun e he=>by
 obtain⟨h1,h2⟩:=hg.2 e.1 (List.mem_map_of_mem he);exact⟨zm h1 (by decide),zm h2 (by decide)⟩
theorem jg0 {w:World} {x:PV} {L:List TO} {m E:Nat} (h:Yx w x L) (hg:XH m (L.map Prod.fst)) (hw:∀ e∈L,e.1.m.le E):(∃ P,KP w x P/\PC P m 4 E)\/BP w x:=by
 have hr:=h.rawP hg;by_cases hk:okP L
 ·obtain⟨P,hv,hc⟩:=hk;refine Or.inl ⟨P,hr.kp hv hc,hc,?_⟩;obtain⟨K,hK,hP⟩:=Ye hv
  have hin:∀ e∈K,(e.1,some e.2)∈L:=fun e he=>by rw[hK];exact List.mem_map_of_mem he
  refine⟨?_,fun t ht=>?_,fun t ht=>?_⟩
  ·have h1:=hg.1;rw[List.length_map,hK,List.length_map] at h1;rw[<- hP,List.length_map];exact h1
  ·rw[<- hP] at ht;obtain⟨e,he,rfl⟩:=List.mem_map.1 ht;have h1:KF w e.1.c e.2:=hr.2.2.2.1 _ (hin e he);obtain⟨h2,h3⟩:=hg.2 e.1 (List.mem_map_of_mem (f:=Prod.fst) (hin e he));exact h1.lq ⟨h2,zm h3 (by decide)⟩
  ·rw[<- hP] at ht;obtain⟨e,he,rfl⟩:=List.mem_map.1 ht;exact hw _ (hin e he)
 ·exact Or.inr ⟨L,hr,hk⟩
theorem BP.n_le {w:World} {x:PV} {L:List TO} {m:Nat} (h:Yx w x L) (hg:XH m (L.map Prod.fst)):x.n<=m:=by
 have h1:=hg.1;rw[List.length_map,h.2.1] at h1;exact h1
def R2 (w:World) (p q:Int) (e:Ending) (w':World):Prop:=∃ x y:NV,e=.returned (.agg #[.bool x.s,.slice x.a x.n x.c,.bool y.s,.slice y.a y.n y.c])/\DN w' w.heap.size x p/\DN w' w.heap.size y q/\Below w.heap.size w w'
abbrev OC (w:World) (lo:Nat) (v:Value) (Zs:List PV):Prop:=w.ownsRow lo 23 1 v Zs.length (Zs.map PV.v)
theorem MR.only {w w':World} {lo g d i b:Nat} {A:List Tm} {bs:Nat->Option Nat} {Ms:Nat->List TE} (h:MR w lo g d i A bs Ms):∀ k b,k<=d->bs k=some b->MK w lo b (Ms k):=fun k b hk hb=>(h.got k b hk hb).1
theorem OC.own {w:World} {lo:Nat} {v:Value} {Zs:List PV} (h:OC w lo v Zs) {k:Nat} (hk:some k=v.ownBlock):lo<=k/\∃ cur,w.heap[k]?=some (.cells cur 23 (0,0)):=by
 rcases h.2 with ⟨hv,_⟩ | ⟨g,cap,cur,hv,hlo,hg,_⟩
 ·rw[hv] at hk;cases hk
 ·rw[hv] at hk;have hk:some k=some g:=hk
  cases hk
  exact⟨hlo,cur,hg⟩
def l4 (a b c d:Rat):Nat->Rat:=fun i=>if i=0 then a else if i=1 then b else if i=2 then c else d
structure CP (w:World) (a:Option Addr) (n c:Nat) (P:List Tm) (i:Nat):Prop where
 len:(n:Int)=degP P i+1
 get:∀ k,k<n->∃ (b:Nat) (z:PV),a=some ⟨b,0,none⟩/\w.cell? ⟨b,k,none⟩=some z.v/\KP w z (VQ P i k)
 cap:n<=c
theorem CP.of {w:World} {lo:Nat} {v:Value} {Zs:List PV} {P:List Tm} {i:Nat} (h:OC w lo v Zs) (hl:(Zs.length:Int)=degP P i+1) (hd:∀ k z,Zs[k]?=some z->DP w lo z (VQ P i k)):∃ a c,v=.slice a Zs.length c/\CP w a Zs.length c P i:=by
 rcases h.2 with ⟨hv,h0⟩ | ⟨g,cap,cur,hv,hlo,hg,hnc,_,hcs,htake⟩
 ·refine⟨none,0,by rw[hv,h0],hl,fun k hk=>by omega,by omega⟩
 ·refine⟨some ⟨g,0,none⟩,cap,hv,hl,fun k hk=>?_,hnc⟩;obtain⟨z,hz⟩:∃ z,Zs[k]?=some z:=⟨_,List.getElem?_eq_getElem hk⟩;refine⟨g,z,rfl,?_,(hd k z hz).k⟩;rw[cell_of_row _ _ _ _ _ _ hg]
  have h1:(Zs.map PV.v)[k]?=some z.v:=by rw[List.getElem?_map,hz];rfl
  rw[<- htake,List.getElem?_take,if_pos (by omega),Array.getElem?_toList] at h1;exact h1
structure SA (w:World) (x:PV) (P:List Tm) (ok:Bool) (n k e:Nat):Prop where
 h:(ok=true/\KP w x P)\/(ok=false/\BP w x/\P=[])
 b:PC P n k e
 le:x.n<=1000000
theorem SA.below {w w':World} {x:PV} {P:List Tm} {ok:Bool} {n k e:Nat} (h:SA w x P ok n k e) (hb:Below w.heap.size w w'):SA w' x P ok n k e :=
 ⟨h.h.imp (fun h=>⟨h.1,h.2.below hb⟩) (fun h=>⟨h.1,h.2.1.below hb,h.2.2⟩),h.b,h.le⟩
theorem SA.ap {w:World} {x:PV} {P:List Tm} {ok:Bool} {n k e:Nat} (h:SA w x P ok n k e):AP w x P:=h.h.elim (fun h=>h.2.any) (fun h=>Or.inr h.2)
theorem KP.sa {w:World} {x:PV} {P:List Tm} {n k e:Nat} (h:KP w x P) (b:PC P n k e) (hn:n<=1000000):SA w x P true n k e:=⟨Or.inl ⟨rfl,h⟩,b,zm (h.n_le b) hn⟩
theorem sa_of {w:World} {x:PV} {L:List TO} {m E:Nat} (h:Yx w x L) (hg:XH m (L.map Prod.fst)) (hw:∀ e∈L,e.1.m.le E) (hm:m<=1000000):∃ P ok,SA w x P ok m 4 E:=by
 rcases jg0 h hg hw with ⟨P,hk,hc⟩ | hb
 ·exact⟨P,true,hk.sa hc hm⟩
 ·exact⟨[],false,Or.inr ⟨rfl,hb,rfl⟩,PC.nil _ _ _,zm (BP.n_le h hg) hm⟩
def Zq (x:FV):Prop:=∃ a c b d,x=⟨⟨false,a,0,c⟩,⟨false,b,0,d⟩⟩
theorem Zq.bf {x:FV} (h:Zq x) (w:World):BF w x:=by
 obtain⟨a,c,b,d,rfl⟩:=h;exact bf_of (KN.zero w a c) (KN.zero w b d) (by decide)
theorem Zq.lf {x:FV} (h:Zq x) (k:Nat):LF x k:=by
 obtain⟨a,c,b,d,rfl⟩:=h;exact⟨Nat.zero_le _,Nat.zero_le _⟩
def RZQ (w:World) (c:Int) (e:Ending) (w':World):Prop:=∃ x:FV,e=.returned (.tuple #[x.v,.int .i64 c])/\Zq x/\Below w.heap.size w w'
theorem qdivX {w:World} {x y:FV} {p:Rat} (h1:KF w x p) (b1:LF x 900000) (h2:BF w y) (b2:LF y 900000):Calls Tryz.prog 221 #[x.v,y.v] w (RZQ w 1):=by
 obtain⟨⟨o1,o2,r1,r2,hk⟩,l1,l2⟩:=h2
 refine(fdiv_2 x.t.s x.t.a x.t.n x.t.c _ x.l.s x.l.a x.l.n x.l.c _ y.t.s y.t.a y.t.n y.t.c o1 y.l.s y.l.a y.l.n y.l.c o2 w h1.t.rd b1.1 h1.t.le h1.l.rd b1.2 h1.l.le r1 b2.1 l1 r2 b2.2 l2 h1.okv hk).mono fun e w' h=>?_
 obtain⟨rfl,hb⟩:=h;exact⟨⟨⟨false,none,0,0⟩,⟨false,none,0,0⟩⟩,rfl,⟨none,0,none,0,rfl⟩,hb⟩
def ZqW (_:World) (x:FV):Prop:=Zq x
theorem ZqW.z {w:World} {x:FV} (h:ZqW w x):Zq x:=h
theorem by_k (x:PV) (P:List Tm) (c:FV) (r:Rat) (k n k2:Nat) (w:World) (hx:AP w x P) (hb:PB P n k 65535) (hxn:x.n<=1000000) (hc:KF w c r) (lr:LQ r 400000) (h0:r≠0) (hr:LQ (1/r) k2) (hk:k<=900000) (hkk:n*(k+k2+1)<=900000) :
  Calls Tryz.prog 140 #[x.v,c.v] w fun e w'=>∃ y:PV,e=.returned y.v/\DP w' w.heap.size y (Qc (1/r) P)/\Below w.heap.size w w':=by
 obtain⟨V,hV⟩:∃ V,V=w.alloc (.cells #[.bool c.t.s,.slice c.t.a c.t.n c.t.c,.bool c.l.s,.slice c.l.a c.l.n c.l.c] 28):=⟨_,rfl⟩
 have hbV:Below w.heap.size w V:=by rw[hV];exact zk.alloc zj _
 have B3:=qh (show Bxs V w.heap.size 28 [.bool c.t.s,.slice c.t.a c.t.n c.t.c,.bool c.l.s,.slice c.l.a c.l.n c.l.c] by rw[hV];exact Bxs.new w 28 [.bool c.t.s,.slice c.t.a c.t.n c.t.c,.bool c.l.s,.slice c.l.a c.l.n c.l.c]);have HX:=qh hx;have HPB:=qh hb;have HXN:=qh hxn;have HK:=qh hk;have HKK:=qh hkk;have NC:=qh (hc.below hbV);have LQr:=qh lr;have HR0:=qh h0;clear hc lr h0;have HR:=qh hr;clear hr;have KG:=qh hbV;have HV:=qh hV;obtain⟨xa,xn,xc⟩:=x;clear hV hbV hx hb hxn hk hkk;change Calls Tryz.prog 140 #[.slice xa xn xc,.agg #[.bool c.t.s,.slice c.t.a c.t.n c.t.c,.bool c.l.s,.slice c.l.a c.l.n c.l.c]] w _;go_enter Tryz.func140,Tryz.ntmps140
 go_upto_region 1 with (fail)
 rw[show w.alloc (.cells #[.bool c.t.s,.slice c.t.a c.t.n c.t.c,.bool c.l.s,.slice c.l.a c.l.n c.l.c] 28)=V from HV.o.symm];obtain⟨q101,hq101⟩:∃ z:Rat,z=((1:Int):Rat):=⟨_,rfl⟩;have Hq101:=qh hq101;have LQq101:=qh (show LQ q101 3 by rw[hq101];exact LQ.int (by decide) (by decide));clear hq101;obtain⟨q102,hq102⟩:∃ z:Rat,z=q101/r:=⟨_,rfl⟩;have Hq102:=qh hq102;have LQq102:=qh (show LQ q102 800000 by rw[hq102];exact LQ.div (HR0.o) (LQq101.o.up (by decide:_<=400000)) (LQr.o.up (by decide:_<=400000)) (by decide));clear hq102
 go_upto_region 1 with (fail)
 refine FS.Jb 8 [(7,6)] (FS.JM [(0,FS.Sp.made (fun x:FV=>x.v) (fun x w'=>DF w' V.heap.size x q101) FV.blk),(2,FS.Sp.made (fun x:FV=>.tuple #[x.v,.int .i64 0]) (fun x w'=>DF w' V.heap.size x q102) FV.blk),(6,FS.Sp.box 28 4 V.heap.size)])
  (fun w'=>Below V.heap.size V w') (by kernel_rfl) (by kernel_rfl) (by kernel_rfl)
  (FS.Jd (FS.Sp.Ji _ (fun _ _ _ h _ hk=>h.kept hk) (FS.Qe (by kernel_rfl))) (FS.Jd (FS.Sp.Ji _ (fun _ _ _ h _ hk=>h.kept hk) (FS.Qe (by kernel_rfl))) (FS.Jd (FS.Sp.KU _ _ _ _) (FS.Jk)))) (fun _ _ h hb=>h.trans (hb.mono h.size)) (zk.drew) ?_
 simp only[zu,zi,ze,zx,zy,zv,zw];refine FS.Jg rfl rfl rfl (fun w' hw'=>?_) ?_
 ·have hb':=hw'.world;refine FS.Jp (FS.PM (fun x:FV=>x.v) (fun x w'=>DF w' V.heap.size x q101) FV.blk w'.heap.size) ?_ (fun _ _ h=>h.post (fun _ _=>FV.inj));go_simp;have CT:=qof 1 w' (by decide) (by decide);rw[show((1:Int):Rat)=q101 from Hq101.o.symm] at CT;refine CT.mono ?_;rintro e w'' ⟨za,rfl,ho,hb⟩;exact⟨_,rfl,⟨za,rfl,ho.mono hb'.size,ho.Xq⟩,hb⟩
 rintro _ ⟨y0,rfl⟩
 conv=>arg 10;simp only[Act.put,zq0,zq1,zq2]
 refine FS.Jc rfl rfl rfl ?_ (fun w' hw'=>?_) ?_;rotate_left
 ·have hb':=hw'.world;have hs0:=(B3.o.bl hb').ce 0;have hs1:=(B3.o.bl hb').ce 1;have hs2:=(B3.o.bl hb').ce 2;have hs3:=(B3.o.bl hb').ce 3;have hsf:=(B3.o.bl hb').fz;have hsl:=(B3.o.bl hb').lt;clear hw';go_simp
  try rfl
 conv=>arg 10;simp only[Act.put,zq0,zq1,zq2]
 refine FS.Jg rfl rfl rfl (fun w' hw'=>?_) ?_
 ·have hb':=hw'.world;refine FS.Jp (FS.PM (fun x:FV=>.tuple #[x.v,.int .i64 0]) (fun x w'=>DF w' V.heap.size x q102) FV.blk w'.heap.size) ?_ (fun _ _ h=>h.post (FV.injE 0));go_simp;have f0:=FS.QE (val:=(fun x:FV=>x.v)) (Φ:=fun x w'=>DF w' V.heap.size x q101) (fun _ _=>FV.inj) (hw'.fact 0 (by kernel_rfl));have CT:=qdiv (f0).k (((f0).k).len LQq101.o (by decide:_<=900000)) (NC.o.below hb') (((NC.o.below hb')).len LQr.o (by decide:_<=900000)) (HR0.o);rw[show q101/r=q102 from Hq102.o.symm] at CT;refine CT.mono ?_;rintro e w'' ⟨za,rfl,ho,hb⟩;exact⟨_,rfl,⟨za,rfl,ho.mono hb'.size,ho.Xq⟩,hb⟩
 rintro _ ⟨y2,rfl⟩
 conv=>arg 10;simp only[Act.put,zq0,zq1,zq2]
 iterate 3
  refine FS.Jc rfl rfl rfl ?_ (fun w' hw'=>?_) ?_;rotate_left
  ·have hb':=hw'.world;skip;clear hw';go_simp
   try rfl
  conv=>arg 10;simp only[Act.put,zq0,zq1,zq2]
 refine FS.Jg rfl rfl rfl (fun w' hw'=>?_) ?_
 ·have hb':=hw'.world;refine FS.Jp (FS.PB 28 4 V.heap.size w'.heap.size) ?_ (fun _ _ h=>h.post);go_simp;exact⟨FS.PB.new _ rfl hb'.size,zk.alloc zj _⟩
 rintro _ ⟨y6,rfl⟩
 conv=>arg 10;simp only[Act.put,zq0,zq1,zq2]
 refine FS.KL rfl rfl 6 rfl rfl rfl rfl (fun _=>Iff.rfl) (fun w' hw'=>?_) ?_
 ·have hb':=hw'.world;have hX:=FS.jd4 (hw'.fact 6 (by kernel_rfl));obtain⟨c0,c1,c2,c3,hB⟩:=shp4 hX.1;have m0:=hB.ce 0;have m1:=hB.ce 1;have m2:=hB.ce 2;have m3:=hB.ce 3;have mf:=hB.fz;have ml:=hB.lt;refine FS.KQ ?_ (jd8 hb' hX.2 hB (.bool y2.t.s) (.slice y2.t.a y2.t.n y2.t.c) (.bool y2.l.s) (.slice y2.l.a y2.l.n y2.l.c));clear hw';go_simp
  try rfl
 conv=>arg 10;simp only[Act.put,zq0,zq1,zq2]
 refine FS.Jn (fun w104 hb hF=>?_);have BX103:=qh (show Bxs w104 y6 28 [.bool y2.t.s,.slice y2.t.a y2.t.n y2.t.c,.bool y2.l.s,.slice y2.l.a y2.l.n y2.l.c] from Z5 (hF.all 7));have N105:=qh (show DF w104 V.heap.size y2 q102 from(FS.QE (val:=(fun x:FV=>.tuple #[x.v,.int .i64 0])) (Φ:=fun x w'=>DF w' V.heap.size x q102) (FV.injE 0) (hF.all 2)));clear hF;have NC:=qh (NC.o.below hb);have B3:=qh (B3.o.bl hb);have KG:=qk KG hb;clear hb;have HYR:=qh (show(1:Rat)/r=q102 from by rw[Hq102.o,show q101=((1:Int):Rat) from Hq101.o];rfl);have SC:=qh (UI ⟨xa,xn,xc⟩ P y2 (1/r) k n k2 w104 (HX.o.below KG.o) HPB.o HXN.o (by rw[HYR.o];exact N105.o.k.any) (N105.o.k.len LQq102.o (by decide)) HR.o HK.o HKK.o);have d50:=BX103.o.ce 0;have d51:=BX103.o.ce 1;have d52:=BX103.o.ce 2;have d53:=BX103.o.ce 3;have d5f:=BX103.o.fz;have d5l:=BX103.o.lt;go_wp2_with fail
 with_reducible refine SC.o.mono ?_
 rintro e w9 ⟨y,rfl,hy,hb⟩;have HY:=qh (hy.mono KG.o.size);have KG:=qk KG hb;clear hy hb SC;go_wp2_with fail
 go_ret;exact⟨y,rfl,HY.o,KG.o⟩
theorem by_x (x:PV) (P:List Tm) (c:FV) (k n:Nat) (w:World) (hx:AP w x P) (hb:PB P n k 65535) (hxn:x.n<=1000000) (hc:BF w c) (lc:LF c 900000) (hk:k<=900000) (hkk:n*(k+1+1)<=900000) :
  Calls Tryz.prog 140 #[x.v,c.v] w fun e w'=>∃ y:PV,e=.returned y.v/\DP w' w.heap.size y (Qc (0) P)/\Below w.heap.size w w':=by
 obtain⟨V,hV⟩:∃ V,V=w.alloc (.cells #[.bool c.t.s,.slice c.t.a c.t.n c.t.c,.bool c.l.s,.slice c.l.a c.l.n c.l.c] 28):=⟨_,rfl⟩
 have hbV:Below w.heap.size w V:=by rw[hV];exact zk.alloc zj _
 have B3:=qh (show Bxs V w.heap.size 28 [.bool c.t.s,.slice c.t.a c.t.n c.t.c,.bool c.l.s,.slice c.l.a c.l.n c.l.c] by rw[hV];exact Bxs.new w 28 [.bool c.t.s,.slice c.t.a c.t.n c.t.c,.bool c.l.s,.slice c.l.a c.l.n c.l.c]);have HX:=qh hx;have HPB:=qh hb;have HXN:=qh hxn;have HK:=qh hk;have HKK:=qh hkk;have HBC:=qh hc;have HLC:=qh lc;clear hc lc;have KG:=qh hbV;have HV:=qh hV;obtain⟨xa,xn,xc⟩:=x;clear hV hbV hx hb hxn hk hkk;change Calls Tryz.prog 140 #[.slice xa xn xc,.agg #[.bool c.t.s,.slice c.t.a c.t.n c.t.c,.bool c.l.s,.slice c.l.a c.l.n c.l.c]] w _;go_enter Tryz.func140,Tryz.ntmps140
 go_upto_region 1 with (fail)
 rw[show w.alloc (.cells #[.bool c.t.s,.slice c.t.a c.t.n c.t.c,.bool c.l.s,.slice c.l.a c.l.n c.l.c] 28)=V from HV.o.symm];obtain⟨q101,hq101⟩:∃ z:Rat,z=((1:Int):Rat):=⟨_,rfl⟩;have Hq101:=qh hq101;have LQq101:=qh (show LQ q101 3 by rw[hq101];exact LQ.int (by decide) (by decide));clear hq101
 go_upto_region 1 with (fail)
 refine FS.Jb 8 [(7,6)] (FS.JM [(0,FS.Sp.made (fun x:FV=>x.v) (fun x w'=>DF w' V.heap.size x q101) FV.blk),(2,FS.Sp.made (fun x:FV=>.tuple #[x.v,.int .i64 1]) (fun x w'=>ZqW w' x) (fun _ _=>False)),(6,FS.Sp.box 28 4 V.heap.size)])
  (fun w'=>Below V.heap.size V w') (by kernel_rfl) (by kernel_rfl) (by kernel_rfl)
  (FS.Jd (FS.Sp.Ji _ (fun _ _ _ h _ hk=>h.kept hk) (FS.Qe (by kernel_rfl))) (FS.Jd (FS.Sp.Ji _ (fun _ _ _ h _ _=>h) (FS.Qe (by kernel_rfl))) (FS.Jd (FS.Sp.KU _ _ _ _) (FS.Jk)))) (fun _ _ h hb=>h.trans (hb.mono h.size)) (zk.drew) ?_
 simp only[zu,zi,ze,zx,zy,zv,zw];refine FS.Jg rfl rfl rfl (fun w' hw'=>?_) ?_
 ·have hb':=hw'.world;refine FS.Jp (FS.PM (fun x:FV=>x.v) (fun x w'=>DF w' V.heap.size x q101) FV.blk w'.heap.size) ?_ (fun _ _ h=>h.post (fun _ _=>FV.inj));go_simp;have CT:=qof 1 w' (by decide) (by decide);rw[show((1:Int):Rat)=q101 from Hq101.o.symm] at CT;refine CT.mono ?_;rintro e w'' ⟨za,rfl,ho,hb⟩;exact⟨_,rfl,⟨za,rfl,ho.mono hb'.size,ho.Xq⟩,hb⟩
 rintro _ ⟨y0,rfl⟩
 conv=>arg 10;simp only[Act.put,zq0,zq1,zq2]
 refine FS.Jc rfl rfl rfl ?_ (fun w' hw'=>?_) ?_;rotate_left
 ·have hb':=hw'.world;have hs0:=(B3.o.bl hb').ce 0;have hs1:=(B3.o.bl hb').ce 1;have hs2:=(B3.o.bl hb').ce 2;have hs3:=(B3.o.bl hb').ce 3;have hsf:=(B3.o.bl hb').fz;have hsl:=(B3.o.bl hb').lt;clear hw';go_simp
  try rfl
 conv=>arg 10;simp only[Act.put,zq0,zq1,zq2]
 refine FS.Jg rfl rfl rfl (fun w' hw'=>?_) ?_
 ·have hb':=hw'.world;refine FS.Jp (FS.PM (fun x:FV=>.tuple #[x.v,.int .i64 1]) (fun x w'=>ZqW w' x) (fun _ _=>False) w'.heap.size) ?_ (fun _ _ h=>h.post (FV.injE 1));go_simp;have f0:=FS.QE (val:=(fun x:FV=>x.v)) (Φ:=fun x w'=>DF w' V.heap.size x q101) (fun _ _=>FV.inj) (hw'.fact 0 (by kernel_rfl));have CT:=qdivX (f0).k (((f0).k).len LQq101.o (by decide:_<=900000)) (HBC.o.below (KG.o.trans (hb'.mono KG.o.size))) HLC.o;refine CT.mono ?_;rintro e w'' ⟨za,rfl,ho,hb⟩;exact⟨_,rfl,⟨za,rfl,(show ZqW w'' za from ho),fun _ h=>False.elim h⟩,hb⟩
 rintro _ ⟨y2,rfl⟩
 conv=>arg 10;simp only[Act.put,zq0,zq1,zq2]
 iterate 3
  refine FS.Jc rfl rfl rfl ?_ (fun w' hw'=>?_) ?_;rotate_left
  ·have hb':=hw'.world;skip;clear hw';go_simp
   try rfl
  conv=>arg 10;simp only[Act.put,zq0,zq1,zq2]
 refine FS.Jg rfl rfl rfl (fun w' hw'=>?_) ?_
 ·have hb':=hw'.world;refine FS.Jp (FS.PB 28 4 V.heap.size w'.heap.size) ?_ (fun _ _ h=>h.post);go_simp;exact⟨FS.PB.new _ rfl hb'.size,zk.alloc zj _⟩
 rintro _ ⟨y6,rfl⟩
 conv=>arg 10;simp only[Act.put,zq0,zq1,zq2]
 refine FS.KL rfl rfl 6 rfl rfl rfl rfl (fun _=>Iff.rfl) (fun w' hw'=>?_) ?_
 ·have hb':=hw'.world;have hX:=FS.jd4 (hw'.fact 6 (by kernel_rfl));obtain⟨c0,c1,c2,c3,hB⟩:=shp4 hX.1;have m0:=hB.ce 0;have m1:=hB.ce 1;have m2:=hB.ce 2;have m3:=hB.ce 3;have mf:=hB.fz;have ml:=hB.lt;refine FS.KQ ?_ (jd8 hb' hX.2 hB (.bool y2.t.s) (.slice y2.t.a y2.t.n y2.t.c) (.bool y2.l.s) (.slice y2.l.a y2.l.n y2.l.c));clear hw';go_simp
  try rfl
 conv=>arg 10;simp only[Act.put,zq0,zq1,zq2]
 refine FS.Jn (fun w103 hb hF=>?_);have BX102:=qh (show Bxs w103 y6 28 [.bool y2.t.s,.slice y2.t.a y2.t.n y2.t.c,.bool y2.l.s,.slice y2.l.a y2.l.n y2.l.c] from Z5 (hF.all 7));have N104:=qh (show ZqW w103 y2 from(FS.QE (val:=(fun x:FV=>.tuple #[x.v,.int .i64 1])) (Φ:=fun x w'=>ZqW w' x) (FV.injE 1) (hF.all 2)));clear hF;have B3:=qh (B3.o.bl hb);have KG:=qk KG hb;clear hb;have SC:=qh (UI ⟨xa,xn,xc⟩ P y2 0 k n 1 w103 (HX.o.below KG.o) HPB.o HXN.o (N104.o.z.bf _).any (N104.o.z.lf _) (LS.zero.lq (by decide) (by decide)) HK.o HKK.o);have d50:=BX102.o.ce 0;have d51:=BX102.o.ce 1;have d52:=BX102.o.ce 2;have d53:=BX102.o.ce 3;have d5f:=BX102.o.fz;have d5l:=BX102.o.lt;go_wp2_with fail
 with_reducible refine SC.o.mono ?_
 rintro e w9 ⟨y,rfl,hy,hb⟩;have HY:=qh (hy.mono KG.o.size);have KG:=qk KG hb;clear hy hb SC;go_wp2_with fail
 go_ret;exact⟨y,rfl,HY.o,KG.o⟩
theorem monic_ne (o:Int) (x:PV) (w:World) (P:List Tm) (k n:Nat) (hx:KP w x P) (hb:PB P n k 65535) (hxn:x.n<=1000000) (hne:P≠[]) (hk:k<=400000) (hkk:n*(k+k+1)<=900000):Calls Tryz.prog 47 #[.int .u8 o,x.v] w fun e w'=>∃ (y:PV) (t:Tm),e=.returned y.v/\VI (Xa o) P t/\DP w' w.heap.size y (Qc (1/t.2) P)/\Below w.heap.size w w':=by
 have LD:=qh (lead_k o x P w hx.any (fun t ht=>(hb.lq t ht).up (by omega)) hxn hne);have HX:=qh hx;have HXN:=qh hxn;have HPB:=qh hb;have HK:=qh hk;have HKK:=qh hkk;clear hx hb hxn hne hk hkk;obtain⟨xa,xn,xc⟩:=x;change Calls Tryz.prog 47 #[.int .u8 o,.slice xa xn xc] w _;go_enter Tryz.func47,Tryz.ntmps47;go_wp2_with fail
 with_reducible refine LD.o.mono ?_
 rintro e w1 ⟨c,⟨m,q⟩,rfl,hc,hld,hb⟩;have KG:=qh hb;have HC:=qh hc;have HLD:=qh hld;clear hc hld;clear hb LD
 go_upto_region 2 with (fail)
 obtain⟨V,hV⟩:∃ V,V=w1.alloc (.cells #[.bool c.t.s,.slice c.t.a c.t.n c.t.c,.bool c.l.s,.slice c.l.a c.l.n c.l.c,.int .u16 m.x,.int .u16 m.y,.int .u16 m.z,.int .u16 m.t] 71):=⟨_,rfl⟩
 have hbV:Below w1.heap.size w1 V:=by rw[hV];exact zk.alloc zj _
 have B5:=qh (show Bxs V w1.heap.size 71 [.bool c.t.s,.slice c.t.a c.t.n c.t.c,.bool c.l.s,.slice c.l.a c.l.n c.l.c,.int .u16 m.x,.int .u16 m.y,.int .u16 m.z,.int .u16 m.t] by rw[hV];exact Bxs.new w1 71 [.bool c.t.s,.slice c.t.a c.t.n c.t.c,.bool c.l.s,.slice c.l.a c.l.n c.l.c,.int .u16 m.x,.int .u16 m.y,.int .u16 m.z,.int .u16 m.t]);rw[<- hV];have KG:=qk KG hbV;have HC:=qh (HC.o.below hbV);have hq:LQ q k:=HPB.o.lq _ HLD.o.1;have BY:=qh (by_k ⟨xa,xn,xc⟩ P c q k n k V (HX.o.below KG.o).any HPB.o HXN.o HC.o.k (hq.up HK.o) (HX.o.canon.non _ HLD.o.1) (lq_inv hq) (by have:=HK.o;omega) HKK.o);clear hq;clear hV hbV;have d50:=B5.o.ce 0;have d51:=B5.o.ce 1;have d52:=B5.o.ce 2;have d53:=B5.o.ce 3;have d54:=B5.o.ce 4;have d55:=B5.o.ce 5;have d56:=B5.o.ce 6;have d57:=B5.o.ce 7;have d5f:=B5.o.fz;have d5l:=B5.o.lt;go_wp2_with fail
 with_reducible refine BY.o.mono ?_
 rintro e w2 ⟨y,rfl,hy,hb⟩;have HY:=qh (hy.mono KG.o.size);have KG:=qk KG hb;clear hy hb BY;go_wp2_with fail
 go_ret;exact⟨y,(m,q),rfl,HLD.o,HY.o,KG.o⟩
theorem jg1 (o:Int) (x:PV) (w:World) (hx:AP w x []) (hxn:x.n<=1000000):Calls Tryz.prog 47 #[.int .u8 o,x.v] w fun e w'=>∃ y:PV,e=.returned y.v/\DP w' w.heap.size y []/\Below w.heap.size w w':=by
 have LD:=qh (lead_nil o x w hx hxn);have HX:=qh hx;have HXN:=qh hxn;clear hx hxn;obtain⟨xa,xn,xc⟩:=x;change Calls Tryz.prog 47 #[.int .u8 o,.slice xa xn xc] w _;go_enter Tryz.func47,Tryz.ntmps47;go_wp2_with fail
 with_reducible refine LD.o.mono ?_
 rintro e w1 ⟨rfl,hb⟩;have KG:=qh hb;clear hb LD
 go_upto_region 2 with (fail)
 obtain⟨V,hV⟩:∃ V,V=w1.alloc (.cells #[.bool false,.slice none 0 0,.bool false,.slice none 0 0,.int .u16 0,.int .u16 0,.int .u16 0,.int .u16 0] 71):=⟨_,rfl⟩
 have hbV:Below w1.heap.size w1 V:=by rw[hV];exact zk.alloc zj _
 have B5:=qh (show Bxs V w1.heap.size 71 [.bool false,.slice none 0 0,.bool false,.slice none 0 0,.int .u16 0,.int .u16 0,.int .u16 0,.int .u16 0] by rw[hV];exact Bxs.new w1 71 [.bool false,.slice none 0 0,.bool false,.slice none 0 0,.int .u16 0,.int .u16 0,.int .u16 0,.int .u16 0]);rw[<- hV];have KG:=qk KG hbV;have BY:=qh (by_x ⟨xa,xn,xc⟩ [] ⟨⟨false,none,0,0⟩,⟨false,none,0,0⟩⟩ 0 0 V (HX.o.below KG.o) (PB.nil _ _ _) HXN.o (Zq.bf ⟨none,0,none,0,rfl⟩ V) ⟨Nat.zero_le _,Nat.zero_le _⟩ (by decide) (by decide));clear hV hbV;have d50:=B5.o.ce 0;have d51:=B5.o.ce 1;have d52:=B5.o.ce 2;have d53:=B5.o.ce 3;have d54:=B5.o.ce 4;have d55:=B5.o.ce 5;have d56:=B5.o.ce 6;have d57:=B5.o.ce 7;have d5f:=B5.o.fz;have d5l:=B5.o.lt;go_wp2_with fail
 with_reducible refine BY.o.mono ?_
 rintro e w2 ⟨y,rfl,hy,hb⟩;have HY:=qh (hy.mono KG.o.size);have KG:=qk KG hb;clear hy hb BY;go_wp2_with fail
 go_ret;exact⟨y,rfl,HY.o,KG.o⟩
structure ER (w:World) (lo:Nat) (v:Value) (L:List TE):Prop where
 row:OT w lo v (L.map Prod.fst)
 num:∀ e∈L,EF w lo e.1.c e.2
theorem ER.nil {w:World} {lo:Nat}:ER w lo (.slice none 0 0) []:=⟨World.ownsRow_nil _ _ _ _,fun _ h=>(by cases h)⟩
theorem ER.below {w w':World} {lo:Nat} {v:Value} {L:List TE} (h:ER w lo v L) (hb:Below w.heap.size w w'):ER w' lo v L:=⟨OT.below h.row hb,fun e he=>(h.num e he).below hb⟩
theorem ER.mono {w:World} {lo lo':Nat} {v:Value} {L:List TE} (h:ER w lo v L) (hl:lo'<=lo):ER w lo' v L:=⟨OT.mono h.row hl,fun e he=>(h.num e he).mono hl⟩
theorem ER.slice {w:World} {lo:Nat} {v:Value} {L:List TE} (h:ER w lo v L):∃ x:PV,v=x.v/\x.n=L.length:=by
 obtain⟨a,c,e,-,-⟩:=OT.slice h.row;exact⟨⟨a,L.length,c⟩,by rw[e,List.length_map],rfl⟩
theorem EF.alloc {w:World} {lo:Nat} {x:FV} {q:Rat} (h:EF w lo x q) (o:Obj):EF (w.alloc o) lo x q:=h.below (zk.alloc zj o)
theorem _root_.Go.RowKit.Below.ofAlloc {B:Nat} {w w':World} {o:Obj} (h:Below B (w.alloc o) w') (hb:B<=w.heap.size):Below B w w':=(zk.alloc hb o).trans h
def rowE (T:TypeId):Bool:=T==71 || T==160
theorem EF.rows {w w':World} {lo:Nat} {x:FV} {q:Rat} (h:EF w lo x q) (hs:∀ (b:Nat) (c:Array Value) (T:TypeId),w.heap[b]?=some (.cells c T (0,0))->rowE T=true->w'.heap[b]?=w.heap[b]?):EF w' lo x q:=h.kept fun b hb=>by
 rcases hb with hb | hb
 ·obtain⟨cur,h5⟩:=ZB h.t.own hb;exact hs b _ _ h5 rfl
 ·obtain⟨cur,h5⟩:=ZB h.l.own hb;exact hs b _ _ h5 rfl
structure NewT (w:World) (lo b:Nat) (m:Mo) (q:Rat):Prop where
 ex:∃ y:FV,Bxs w b 71 (TV.cells ⟨y,m⟩)/\EF w lo y q
theorem NewT.rows {w w':World} {lo b:Nat} {m:Mo} {q:Rat} (h:NewT w lo b m q) (hs:∀ (b:Nat) (c:Array Value) (T:TypeId),w.heap[b]?=some (.cells c T (0,0))->rowE T=true->w'.heap[b]?=w.heap[b]?):NewT w' lo b m q:=by
 obtain⟨y,h1,h2⟩:=h.ex;exact⟨y,(hs b _ _ h1 rfl).trans h1,h2.rows hs⟩
structure EP (w:World) (lo:Nat) (x:PV) (P:List Tm):Prop where
 ex:∃ L:List TE,ER w lo x.v L/\L.map tm=P
 canon:Canon P
 small:∀ t∈P,t.1.Small
theorem EP.k {w:World} {lo:Nat} {x:PV} {P:List Tm} (h:EP w lo x P):KP w x P:=by
 obtain⟨L,h1,h4⟩:=h.ex;obtain⟨a,c,e,hc,hr⟩:=OT.slice h1.row;obtain⟨xa,xn,xc⟩:=x;simp only[PV.v,Value.slice.injEq] at e;obtain⟨rfl,rfl,rfl⟩:=e;exact⟨⟨L,hr,(List.length_map ..).symm,fun e he=>(h1.num e he).k,h4⟩,hc,h.canon,h.small⟩
theorem EP.mono {w:World} {lo lo':Nat} {x:PV} {P:List Tm} (h:EP w lo x P) (hl:lo'<=lo):EP w lo' x P:=by
 obtain⟨L,h1,h4⟩:=h.ex;exact⟨⟨L,h1.mono hl,h4⟩,h.canon,h.small⟩
theorem EP.nil {w:World} {lo:Nat}:EP w lo ⟨none,0,0⟩ []:=⟨⟨[],ER.nil,rfl⟩,Canon.nil,fun _ h=>(by cases h)⟩
theorem jcl {w w':World} {lo lo':Nat} {x:NV} {z:Int} {v:Value} {ts:List TV} (h:DN w lo x z) (ho:OT w lo' v ts) (hg:w.grownBy w' v.ownBlock):DN w' lo x z:=by
 refine⟨h.s,h.n,⟨h.own.le,h.own.place.imp id fun ⟨g,cur,ha,hlo,hc,hr⟩=>⟨g,cur,ha,hlo,?_,hr⟩,h.own.rng⟩⟩;refine(hg.block g (lt_of_block hc) fun e=>?_).trans hc
 rcases ho.2 with ⟨hv,-⟩ | ⟨g2,cap,cur2,hv,-,hg2,-⟩
 ·rw[hv] at e;cases e
 ·rw[hv] at e;have e:some g=some g2:=e
  injection e with e
  subst e;rw[hc] at hg2
  cases hg2
theorem EF.grown {w w':World} {lo lo':Nat} {x:FV} {q:Rat} {v:Value} {ts:List TV} (h:EF w lo x q) (ho:OT w lo' v ts) (hg:w.grownBy w' v.ownBlock):EF w' lo x q:=⟨jcl h.t ho hg,jcl h.l ho hg⟩
theorem tv_one (t:TV):∀ u∈TV.cells t,u.oneCell'=true:=by
 intro u hu;simp only[TV.cells,List.mem_cons,List.mem_nil_iff,or_false] at hu
 rcases hu with rfl | rfl | rfl | rfl | rfl | rfl | rfl | rfl <;> rfl
theorem info8P:(Tryz.prog.info? 71).map (fun i=>(i.zero,i.size,i.bytes))=some (some (.agg #[.bool false,.slice none 0 0,.bool false,.slice none 0 0,.int .u16 0,.int .u16 0,.int .u16 0,.int .u16 0]),8,72):=by kernel_rfl
theorem UZ {ops:Array Oper} {rest:List Oper} {oo:Oper} {ac:Act} {Q:Exit->Act->World->Prop} (hgd:oo.guard=none) (s x:Operand)
  (ho:oo.op=.call { callee:=.builtin .append,args:=#[s,x],argTypes:=#[23,23] })
  {w:World} {lo:Nat} {v:Value} {L:List TE} (hs:ac.eval s=v) (h:ER w lo v L) (hn:L.length<=1000000000) (hb:lo<=w.heap.size)
  {gs:Nat} {t:TV} {q:Rat} {m c:Nat} (hx:ac.eval x=.slice (some ⟨gs,0,none⟩) m c) (hc:Bxs w gs 71 t.cells) (hq:EF w lo t.c q) (hm:m=1)
  (hK:∀ (z:PV) w',ER w' lo z.v (L++[(t,q)])->Below lo w w'->wpList Tryz.prog ops Q rest (ac.put oo.dst z.v) w'):wpList Tryz.prog ops Q (oo :: rest) ac w:=by
 subst hm;obtain⟨i0,hi,hz0,hz1,hz2⟩:=info_parts info8P;refine wpList_append_own _ hgd s x 23 ho lo 71 i0 _ 8 72 Tryz.underlying23 hi hz0 hz1 hz2 rfl (by decide) v _ _ hs h.row ⟨gs,0,none⟩ 1 c (TV.cells t) hx rfl (fun j u hj=>?_) (tv_one t) ?_ ?_ hb ?_
 ·rw[Addr.add_lit,Nat.zero_add];exact hc.cell hj
 ·rw[List.length_map];unfold maxLen;omega
 ·rw[List.length_map];omega
 ·intro v' w' hown hg _
  have e1:(L++[(t,q)]).map Prod.fst=L.map Prod.fst++[t]:=by rw[List.map_append];rfl
  have e2:(L.map Prod.fst++[t]).flatMap TV.cells=(L.map Prod.fst).flatMap TV.cells++TV.cells t:=by rw[List.flatMap_append,List.flatMap_cons,List.flatMap_nil,List.append_nil]
  have hr:OT w' lo v' ((L++[(t,q)]).map Prod.fst):=by
   rw[e1];show w'.ownsRow _ _ _ _ _ _;rw[e2,List.length_append];exact hown
  have hE:ER w' lo v' (L++[(t,q)]):=⟨hr,fun e he=>by
   rcases List.mem_append.1 he with he | he
   ·exact(h.num e he).grown h.row hg
   ·rw[List.mem_singleton.1 he];exact hq.grown h.row hg⟩
  obtain⟨z,rfl,-⟩:=hE.slice;exact hK z w' hE (zk.grown hg hb (fun g hg=>(World.ownsRow.lt h.row g hg).1))
end Pol
end Go.Proofs.YtgkkbkoiaccmfaaGreatDoor
