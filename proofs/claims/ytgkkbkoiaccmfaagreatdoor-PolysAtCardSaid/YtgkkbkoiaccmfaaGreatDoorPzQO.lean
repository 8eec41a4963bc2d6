/-
  The walk of polys.At.
-/
import Derived.Test.YtgkkbkoiaccmfaaGreatDoorPzQN
set_option linter.unusedSimpArgs false
set_option linter.unusedVariables false
set_option maxHeartbeats 16000000
set_option maxRecDepth 100000
namespace Go.Proofs.YtgkkbkoiaccmfaaGreatDoor
namespace Pol
open Go.RowKit Go.Sort Limb
theorem Va (x:PV) (L:List TO) (k0:Nat) (w:World) (h:Ul w x L) (hn:x.n<=1000000000) (hk:k0<=L.length) (hok:∀ i,i<k0->Ok1 L i) (hbad:k0<L.length->¬Ok1 L k0) :
  Calls Tryz.prog 54 #[x.v] w fun e w'=>e=.returned (.bool (decide (k0=L.length)))/\Below w.heap.size w w':=by
 obtain⟨xa,xn,xc⟩:=x;have HLN:=qh (show L.length=xn from h.2.1);have HN:=qh (show xn<=1000000000 from hn);have HR:=qh h;have HK0:=qh hk;have HOK:=qh hok;have HBAD:=qh hbad;have KG:=qh (Below.refl w.heap.size w);obtain⟨bv,hbv⟩:∃ b,b=decide (k0=L.length):=⟨_,rfl⟩;have HBV:=qh hbv;rw[<- hbv];clear h hk hok hbad hn hbv;change Calls Tryz.prog 54 #[.slice xa xn xc] w _;go_enter Tryz.func54,Tryz.ntmps54;go_wp2_with fail
 go_loopw [3] (fun i wr=>∃ k:Nat,k<=k0/\i=.int .i64 k/\Below w.heap.size w wr) (fun i _=>xn-(intOf i).toNat)
 case atStart=>exact⟨0,Nat.zero_le _,rfl,KG.o⟩
 case round =>
  obtain⟨k,hkk,rfl,hb0⟩:=hrel;have KG:=qh hb0;have HKK0:=qh hkk;clear hb0 hkk;by_cases hkl:k<xn
  ·have HKL:=qh hkl
   have hkl2:(k:Int)<(xn:Int):=by omega
   obtain⟨pb,po,rfl,hre⟩:=(HR.o.below KG.o).1.one (fun h=>by have h1:=HLN.o;rw[List.map_eq_nil_iff] at h;rw[h] at h1;simp at h1;omega);obtain⟨e,he⟩:∃ e,L[k]?=some e:=⟨_,List.getElem?_eq_getElem (by rw[HLN.o];exact hkl)⟩;obtain⟨t,o⟩:=e;have E1:=qh (hre k t (by rw[List.getElem?_map,he];rfl));have HRE:=qh hre;have HE:=qh he;have HTO:=qh ((HR.o.below KG.o).2.2.2.1 _ (List.mem_of_getElem? he));have HLF:=qh (show LF t.c 900000 from HR.o.2.2.2.2.2 _ (List.mem_of_getElem? he));have HS1:=qh (show t.m.Small from HR.o.2.2.2.2.1 _ (List.mem_of_getElem? he));clear hre he hkl
   cases o with
   | none =>
    have NF:=qh (show BF wr t.c from HTO.o)
    have HEND:=qh (show false=bv by
     rw[HBV.o];refine(zo fun hh=>?_).symm;obtain⟨e',q',h1,h2,-⟩:=HOK.o k (by rw[hh,HLN.o];exact HKL.o);rw[HE.o] at h1
     cases h1
     cases h2)
    clear HTO
    go_upto_region 4 with (fail)
    refine FS.Jc 34 [] (FS.JM [(5,FS.Sp.know (.bool false))])
     (fun w'=>Below wr.heap.size wr w') (by kernel_rfl) (by kernel_rfl) (by kernel_rfl)
     (FS.Jd (FS.Sp.Jm _ _) (FS.Jl)) (fun _ _ h hb=>h.trans (hb.mono h.size)) (zk.drew) ?_
    simp only[zu,zi,ze,zx,zy,zv,zw]
    iterate 5
     refine FS.Jb rfl rfl rfl ?_ (fun w' hw'=>?_) ?_;rotate_left
     ·have hb':=hw'.world;have hn:=HKL.o;obtain⟨hs0,hs1,hs2,hs3,hs4,hs5,hs6,hs7⟩:=(E1.o.below hb').eight;clear hw';go_simp
      try rfl
     conv=>arg 10;simp only[Act.put,zq0,zq1,zq2]
    refine FS.Jf rfl rfl rfl (fun w' hw'=>?_) ?_
    ·have hb':=hw'.world;refine FS.Jo (FS.PK (.bool false)) ?_ (fun _ _ h=>h.post);go_simp;have CT:=(show Calls Tryz.prog 128 #[.agg #[.bool t.c.t.s,.slice t.c.t.a t.c.t.n t.c.t.c,.bool t.c.l.s,.slice t.c.l.a t.c.l.n t.c.l.c]] w' _ from jb6 (x:=t.c) (NF.o.below hb') HLF.o);refine CT.mono ?_;rintro e w'' ⟨rfl,hb⟩;exact⟨_,rfl,rfl,hb⟩
    rintro _ rfl
    conv=>arg 10;simp only[Act.put,zq0,zq1,zq2]
    iterate 2
     refine FS.Jb rfl rfl rfl ?_ (fun w' hw'=>?_) ?_;rotate_left
     ·have hb':=hw'.world;skip;clear hw';go_simp
      try rfl
     conv=>arg 10;simp only[Act.put,zq0,zq1,zq2]
    iterate 7
     refine FS.Qf (by rfl) rfl ?_
     conv=>arg 10;simp only[Act.put,zq0,zq1,zq2]
    iterate 2
     refine FS.Jb rfl rfl rfl ?_ (fun w' hw'=>?_) ?_;rotate_left
     ·have hb':=hw'.world;skip;clear hw';go_simp
      try rfl
     conv=>arg 10;simp only[Act.put,zq0,zq1,zq2]
    iterate 17
     refine FS.Qf (by rfl) rfl ?_
     conv=>arg 10;simp only[Act.put,zq0,zq1,zq2]
    refine FS.Jn (fun w101 hb hF=>?_);clear hF;have KG:=qk KG hb;clear hb;go_wp2_with fail
    go_ret
    exact⟨by rw[HEND.o] <;> rfl,KG.o⟩
   | some q =>
    have NF:=qh (show KF wr t.c q from HTO.o);by_cases hq:q=0
    ·have HSG:=qh (q_num.2 hq)
     have HEND:=qh (show false=bv by
      rw[HBV.o];refine(zo fun hh=>?_).symm;obtain⟨e',q',h1,h2,h3,-⟩:=HOK.o k (by rw[hh,HLN.o];exact HKL.o);rw[HE.o] at h1
      cases h1
      cases h2
      exact h3 hq)
     clear HTO hq
     go_upto_region 4 with (fail)
     refine FS.Jc 34 [] (FS.JM [(5,FS.Sp.know (.bool true)),(13,FS.Sp.know (.int .i64 0))])
      (fun w'=>Below wr.heap.size wr w') (by kernel_rfl) (by kernel_rfl) (by kernel_rfl)
      (FS.Jd (FS.Sp.Jm _ _) (FS.Jd (FS.Sp.Jm _ _) (FS.Jl))) (fun _ _ h hb=>h.trans (hb.mono h.size)) (zk.drew) ?_
     simp only[zu,zi,ze,zx,zy,zv,zw]
     iterate 5
      refine FS.Jb rfl rfl rfl ?_ (fun w' hw'=>?_) ?_;rotate_left
      ·have hb':=hw'.world;have hn:=HKL.o;obtain⟨hs0,hs1,hs2,hs3,hs4,hs5,hs6,hs7⟩:=(E1.o.below hb').eight;clear hw';go_simp
       try rfl
      conv=>arg 10;simp only[Act.put,zq0,zq1,zq2]
     refine FS.Jf rfl rfl rfl (fun w' hw'=>?_) ?_
     ·have hb':=hw'.world;refine FS.Jo (FS.PK (.bool true)) ?_ (fun _ _ h=>h.post);go_simp;have CT:=(show Calls Tryz.prog 128 #[.agg #[.bool t.c.t.s,.slice t.c.t.a t.c.t.n t.c.t.c,.bool t.c.l.s,.slice t.c.l.a t.c.l.n t.c.l.c]] w' _ from Xp (x:=t.c) (NF.o.below hb') HLF.o);refine CT.mono ?_;rintro e w'' ⟨rfl,hb⟩;exact⟨_,rfl,rfl,hb⟩
     rintro _ rfl
     conv=>arg 10;simp only[Act.put,zq0,zq1,zq2]
     iterate 2
      refine FS.Jb rfl rfl rfl ?_ (fun w' hw'=>?_) ?_;rotate_left
      ·have hb':=hw'.world;skip;clear hw';go_simp
       try rfl
      conv=>arg 10;simp only[Act.put,zq0,zq1,zq2]
     iterate 5
      refine FS.Jk (by rfl) rfl rfl ?_ (fun w' hw'=>?_) ?_;rotate_left
      ·have hb':=hw'.world;have hn:=HKL.o;obtain⟨hs0,hs1,hs2,hs3,hs4,hs5,hs6,hs7⟩:=(E1.o.below hb').eight;clear hw';go_simp
       try rfl
      conv=>arg 10;simp only[Act.put,zq0,zq1,zq2]
     refine FS.JA (by rfl) rfl rfl (fun w' hw'=>?_) ?_
     ·have hb':=hw'.world;refine FS.Jo (FS.PK (.int .i64 0)) ?_ (fun _ _ h=>h.post);go_simp;have CT:=(show Calls Tryz.prog 77 #[.agg #[.bool t.c.t.s,.slice t.c.t.a t.c.t.n t.c.t.c,.bool t.c.l.s,.slice t.c.l.a t.c.l.n t.c.l.c]] w' _ from jaj (x:=t.c) (NF.o.below hb').any HLF.o);rw[show JB q.num 0=0 from HSG.o] at CT;refine CT.mono ?_;rintro e w'' ⟨rfl,hb⟩;exact⟨_,rfl,rfl,hb⟩
     rintro _ rfl
     conv=>arg 10;simp only[Act.put,zq0,zq1,zq2]
     refine FS.Jk (by rfl) rfl rfl ?_ (fun w' hw'=>?_) ?_;rotate_left
     ·have hb':=hw'.world;skip;clear hw';go_simp
      try rfl
     conv=>arg 10;simp only[Act.put,zq0,zq1,zq2]
     iterate 2
      refine FS.Jb rfl rfl rfl ?_ (fun w' hw'=>?_) ?_;rotate_left
      ·have hb':=hw'.world;skip;clear hw';go_simp
       try rfl
      conv=>arg 10;simp only[Act.put,zq0,zq1,zq2]
     iterate 17
      refine FS.Qf (by rfl) rfl ?_
      conv=>arg 10;simp only[Act.put,zq0,zq1,zq2]
     refine FS.Jn (fun w102 hb hF=>?_);clear hF;have KG:=qk KG hb;clear hb;go_wp2_with fail
     go_ret;exact⟨by rw[HEND.o] <;> rfl,KG.o⟩
    ·obtain⟨sg,hsg⟩:∃ c,c=JB q.num 0:=⟨_,rfl⟩;have HSG:=qh hsg.symm
     have gsg:(sg==0)=false:=by
      rw[hsg]
      simpa using fun h=>hq (q_num.1 h)
     have HQ:=qh hq;clear hsg hq HTO
     rcases Nat.eq_zero_or_pos k with h0 | h0
     ·have HKK:=qh (show k<k0 from Nat.lt_of_le_of_ne HKK0.o fun hh=>HBAD.o (by rw[<- hh,HLN.o];exact HKL.o) (by rw[<- hh];exact⟨_,q,HE.o,rfl,HQ.o,fun h=>by omega⟩))
      have gk2:¬(0<(k:Int)):=by omega
      have gk3:¬(0<k):=by omega
      clear h0
      go_upto_region 4 with (fail)
      refine FS.Jc 34 [] (FS.JM [(5,FS.Sp.know (.bool true)),(13,FS.Sp.know (.int .i64 sg))])
       (fun w'=>Below wr.heap.size wr w') (by kernel_rfl) (by kernel_rfl) (by kernel_rfl)
       (FS.Jd (FS.Sp.Jm _ _) (FS.Jd (FS.Sp.Jm _ _) (FS.Jl))) (fun _ _ h hb=>h.trans (hb.mono h.size)) (zk.drew) ?_
      simp only[zu,zi,ze,zx,zy,zv,zw]
      iterate 5
       refine FS.Jb rfl rfl rfl ?_ (fun w' hw'=>?_) ?_;rotate_left
       ·have hb':=hw'.world;have hn:=HKL.o;obtain⟨hs0,hs1,hs2,hs3,hs4,hs5,hs6,hs7⟩:=(E1.o.below hb').eight;clear hw';go_simp
        try rfl
       conv=>arg 10;simp only[Act.put,zq0,zq1,zq2]
      refine FS.Jf rfl rfl rfl (fun w' hw'=>?_) ?_
      ·have hb':=hw'.world;refine FS.Jo (FS.PK (.bool true)) ?_ (fun _ _ h=>h.post);go_simp;have CT:=(show Calls Tryz.prog 128 #[.agg #[.bool t.c.t.s,.slice t.c.t.a t.c.t.n t.c.t.c,.bool t.c.l.s,.slice t.c.l.a t.c.l.n t.c.l.c]] w' _ from Xp (x:=t.c) (NF.o.below hb') HLF.o);refine CT.mono ?_;rintro e w'' ⟨rfl,hb⟩;exact⟨_,rfl,rfl,hb⟩
      rintro _ rfl
      conv=>arg 10;simp only[Act.put,zq0,zq1,zq2]
      iterate 2
       refine FS.Jb rfl rfl rfl ?_ (fun w' hw'=>?_) ?_;rotate_left
       ·have hb':=hw'.world;skip;clear hw';go_simp
        try rfl
       conv=>arg 10;simp only[Act.put,zq0,zq1,zq2]
      iterate 5
       refine FS.Jk (by rfl) rfl rfl ?_ (fun w' hw'=>?_) ?_;rotate_left
       ·have hb':=hw'.world;have hn:=HKL.o;obtain⟨hs0,hs1,hs2,hs3,hs4,hs5,hs6,hs7⟩:=(E1.o.below hb').eight;clear hw';go_simp
        try rfl
       conv=>arg 10;simp only[Act.put,zq0,zq1,zq2]
      refine FS.JA (by rfl) rfl rfl (fun w' hw'=>?_) ?_
      ·have hb':=hw'.world;refine FS.Jo (FS.PK (.int .i64 sg)) ?_ (fun _ _ h=>h.post);go_simp;have CT:=(show Calls Tryz.prog 77 #[.agg #[.bool t.c.t.s,.slice t.c.t.a t.c.t.n t.c.t.c,.bool t.c.l.s,.slice t.c.l.a t.c.l.n t.c.l.c]] w' _ from jaj (x:=t.c) (NF.o.below hb').any HLF.o);rw[show JB q.num 0=sg from HSG.o] at CT;refine CT.mono ?_;rintro e w'' ⟨rfl,hb⟩;exact⟨_,rfl,rfl,hb⟩
      rintro _ rfl
      conv=>arg 10;simp only[Act.put,zq0,zq1,zq2]
      refine FS.Jk (by rfl) rfl rfl ?_ (fun w' hw'=>?_) ?_;rotate_left
      ·have hb':=hw'.world;skip;clear hw';go_simp
       try rfl
      conv=>arg 10;simp only[Act.put,zq0,zq1,zq2]
      iterate 2
       refine FS.Jb rfl rfl rfl ?_ (fun w' hw'=>?_) ?_;rotate_left
       ·have hb':=hw'.world;skip;clear hw';go_simp
        try rfl
       conv=>arg 10;simp only[Act.put,zq0,zq1,zq2]
      iterate 3
       refine FS.Jk (by rfl) rfl rfl ?_ (fun w' hw'=>?_) ?_;rotate_left
       ·have hb':=hw'.world;skip;clear hw';go_simp
        try rfl
       conv=>arg 10;simp only[Act.put,zq0,zq1,zq2]
      iterate 13
       refine FS.Qf (by rfl) rfl ?_
       conv=>arg 10;simp only[Act.put,zq0,zq1,zq2]
      refine FS.Jk (by rfl) rfl rfl ?_ (fun w' hw'=>?_) ?_;rotate_left
      ·have hb':=hw'.world;skip;clear hw';go_simp
       try rfl
      conv=>arg 10;simp only[Act.put,zq0,zq1,zq2]
      refine FS.Jn (fun w103 hb hF=>?_);clear hF;have KG:=qk KG hb;clear hb;have ek1:IntKind.i64.wrap ((k:Int)+1)=(k:Int)+1:=IntWalk.i64_in _ (by have:=HKL.o;have:=HN.o;omega);go_wp2_with fail
      go_roundw
      case rel=>exact⟨k+1,by have:=HKK.o;omega,rfl,KG.o⟩
      case measure=>simp[intOf];have:=HKL.o;omega
     ·obtain⟨j,hj⟩:∃ j,k=j+1:=⟨k-1,by omega⟩
      have gk2:0<(k:Int):=by omega
      have gk3:0<k:=by omega
      have EJW:=qh (show IntKind.i64.wrap ((k:Int)-1)=(j:Int) by have:=HKL.o;have:=HN.o;rw[IntWalk.i64_in _ (by omega)];omega);have HJN:=qh (show j<xn by have:=HKL.o;omega);have HJK:=qh hj;obtain⟨d,hd⟩:∃ d,L[j]?=some d:=⟨_,List.getElem?_eq_getElem (by rw[HLN.o];exact HJN.o)⟩;obtain⟨tj,oj⟩:=d;have HD:=qh hd;have EJ:=qh (HRE.o j tj (by rw[List.getElem?_map,hd];rfl));have HS2:=qh (show tj.m.Small from HR.o.2.2.2.2.1 _ (List.mem_of_getElem? hd));obtain⟨fv,hfv⟩:∃ c,c=Mono.JB (Uw 0 tj.m) (Uw 0 t.m):=⟨_,rfl⟩;have HFV:=qh hfv.symm;clear hd h0 hj;by_cases hlt:t.m.lt tj.m
      ·have gf2:¬(fv<=0):=by rw[hfv];exact Int.not_le.2 (jb5.2 ((jeu HS1.o HS2.o).1 hlt))
       have HKK:=qh (show k<k0 from Nat.lt_of_le_of_ne HKK0.o fun hh=>HBAD.o (by rw[<- hh,HLN.o];exact HKL.o) (by rw[<- hh];exact⟨_,q,HE.o,rfl,HQ.o,fun _=>⟨_,by rw[HJK.o];exact HD.o,hlt⟩⟩));clear hfv hlt
       go_upto_region 4 with (fail)
       refine FS.Jc 34 [] (FS.JM [(5,FS.Sp.know (.bool true)),(13,FS.Sp.know (.int .i64 sg)),(31,FS.Sp.know (.int .i64 fv))])
        (fun w'=>Below wr.heap.size wr w') (by kernel_rfl) (by kernel_rfl) (by kernel_rfl)
        (FS.Jd (FS.Sp.Jm _ _) (FS.Jd (FS.Sp.Jm _ _) (FS.Jd (FS.Sp.Jm _ _) (FS.Jl)))) (fun _ _ h hb=>h.trans (hb.mono h.size)) (zk.drew) ?_
       simp only[zu,zi,ze,zx,zy,zv,zw]
       iterate 5
        refine FS.Jb rfl rfl rfl ?_ (fun w' hw'=>?_) ?_;rotate_left
        ·have hb':=hw'.world;have hn:=HKL.o;obtain⟨hs0,hs1,hs2,hs3,hs4,hs5,hs6,hs7⟩:=(E1.o.below hb').eight;clear hw';go_simp
         try rfl
        conv=>arg 10;simp only[Act.put,zq0,zq1,zq2]
       refine FS.Jf rfl rfl rfl (fun w' hw'=>?_) ?_
       ·have hb':=hw'.world;refine FS.Jo (FS.PK (.bool true)) ?_ (fun _ _ h=>h.post);go_simp;have CT:=(show Calls Tryz.prog 128 #[.agg #[.bool t.c.t.s,.slice t.c.t.a t.c.t.n t.c.t.c,.bool t.c.l.s,.slice t.c.l.a t.c.l.n t.c.l.c]] w' _ from Xp (x:=t.c) (NF.o.below hb') HLF.o);refine CT.mono ?_;rintro e w'' ⟨rfl,hb⟩;exact⟨_,rfl,rfl,hb⟩
       rintro _ rfl
       conv=>arg 10;simp only[Act.put,zq0,zq1,zq2]
       iterate 2
        refine FS.Jb rfl rfl rfl ?_ (fun w' hw'=>?_) ?_;rotate_left
        ·have hb':=hw'.world;skip;clear hw';go_simp
         try rfl
        conv=>arg 10;simp only[Act.put,zq0,zq1,zq2]
       iterate 5
        refine FS.Jk (by rfl) rfl rfl ?_ (fun w' hw'=>?_) ?_;rotate_left
        ·have hb':=hw'.world;have hn:=HKL.o;obtain⟨hs0,hs1,hs2,hs3,hs4,hs5,hs6,hs7⟩:=(E1.o.below hb').eight;clear hw';go_simp
         try rfl
        conv=>arg 10;simp only[Act.put,zq0,zq1,zq2]
       refine FS.JA (by rfl) rfl rfl (fun w' hw'=>?_) ?_
       ·have hb':=hw'.world;refine FS.Jo (FS.PK (.int .i64 sg)) ?_ (fun _ _ h=>h.post);go_simp;have CT:=(show Calls Tryz.prog 77 #[.agg #[.bool t.c.t.s,.slice t.c.t.a t.c.t.n t.c.t.c,.bool t.c.l.s,.slice t.c.l.a t.c.l.n t.c.l.c]] w' _ from jaj (x:=t.c) (NF.o.below hb').any HLF.o);rw[show JB q.num 0=sg from HSG.o] at CT;refine CT.mono ?_;rintro e w'' ⟨rfl,hb⟩;exact⟨_,rfl,rfl,hb⟩
       rintro _ rfl
       conv=>arg 10;simp only[Act.put,zq0,zq1,zq2]
       refine FS.Jk (by rfl) rfl rfl ?_ (fun w' hw'=>?_) ?_;rotate_left
       ·have hb':=hw'.world;skip;clear hw';go_simp
        try rfl
       conv=>arg 10;simp only[Act.put,zq0,zq1,zq2]
       iterate 2
        refine FS.Jb rfl rfl rfl ?_ (fun w' hw'=>?_) ?_;rotate_left
        ·have hb':=hw'.world;skip;clear hw';go_simp
         try rfl
        conv=>arg 10;simp only[Act.put,zq0,zq1,zq2]
       iterate 14
        refine FS.Jk (by rfl) rfl rfl ?_ (fun w' hw'=>?_) ?_;rotate_left
        ·have hb':=hw'.world;have hj:=EJW.o;have hn:=HJN.o;obtain⟨hs0,hs1,hs2,hs3,hs4,hs5,hs6,hs7⟩:=(EJ.o.below hb').eight;have hn:=HKL.o;obtain⟨hs0,hs1,hs2,hs3,hs4,hs5,hs6,hs7⟩:=(E1.o.below hb').eight;clear hw';go_simp
         try rfl
        conv=>arg 10;simp only[Act.put,zq0,zq1,zq2]
       refine FS.JA (by rfl) rfl rfl (fun w' hw'=>?_) ?_
       ·have hb':=hw'.world;refine FS.Jo (FS.PK (.int .i64 fv)) ?_ (fun _ _ h=>h.post);go_simp;have CT:=(show Calls Tryz.prog 151 #[.int .u8 0,.agg #[.int .u16 tj.m.x,.int .u16 tj.m.y,.int .u16 tj.m.z,.int .u16 tj.m.t],.agg #[.int .u16 t.m.x,.int .u16 t.m.y,.int .u16 t.m.z,.int .u16 t.m.t]] w' _ from rcmpV 0 tj.m t.m w' HS2.o HS1.o);rw[show Mono.JB (Uw 0 tj.m) (Uw 0 t.m)=fv from HFV.o] at CT;refine CT.mono ?_;rintro e w'' ⟨rfl,hb⟩;exact⟨_,rfl,rfl,hb⟩
       rintro _ rfl
       conv=>arg 10;simp only[Act.put,zq0,zq1,zq2]
       iterate 2
        refine FS.Jk (by rfl) rfl rfl ?_ (fun w' hw'=>?_) ?_;rotate_left
        ·have hb':=hw'.world;skip;clear hw';go_simp
         try rfl
        conv=>arg 10;simp only[Act.put,zq0,zq1,zq2]
       refine FS.Jn (fun w104 hb hF=>?_);clear hF;have KG:=qk KG hb;clear hb;have ek1:IntKind.i64.wrap ((k:Int)+1)=(k:Int)+1:=IntWalk.i64_in _ (by have:=HKL.o;have:=HN.o;omega);go_wp2_with fail
       go_roundw
       case rel=>exact⟨k+1,by have:=HKK.o;omega,rfl,KG.o⟩
       case measure=>simp[intOf];have:=HKL.o;omega
      ·have gf2:fv<=0:=by rw[hfv];exact Int.not_lt.1 fun h=>hlt ((jeu HS1.o HS2.o).2 (jb5.1 h))
       have HEND:=qh (show false=bv by
        rw[HBV.o];refine(zo fun hh=>?_).symm;obtain⟨e',q',h1,h2,h3,h4⟩:=HOK.o k (by rw[hh,HLN.o];exact HKL.o);obtain⟨d',h5,h6⟩:=h4 (by have:=HJK.o;omega);rw[HE.o] at h1
        cases h1
        rw[show k-1=j by have:=HJK.o;omega,HD.o] at h5
        cases h5
        exact hlt h6)
       clear hfv hlt
       go_upto_region 4 with (fail)
       refine FS.Jc 34 [] (FS.JM [(5,FS.Sp.know (.bool true)),(13,FS.Sp.know (.int .i64 sg)),(31,FS.Sp.know (.int .i64 fv))])
        (fun w'=>Below wr.heap.size wr w') (by kernel_rfl) (by kernel_rfl) (by kernel_rfl)
        (FS.Jd (FS.Sp.Jm _ _) (FS.Jd (FS.Sp.Jm _ _) (FS.Jd (FS.Sp.Jm _ _) (FS.Jl)))) (fun _ _ h hb=>h.trans (hb.mono h.size)) (zk.drew) ?_
       simp only[zu,zi,ze,zx,zy,zv,zw]
       iterate 5
        refine FS.Jb rfl rfl rfl ?_ (fun w' hw'=>?_) ?_;rotate_left
        ·have hb':=hw'.world;have hn:=HKL.o;obtain⟨hs0,hs1,hs2,hs3,hs4,hs5,hs6,hs7⟩:=(E1.o.below hb').eight;clear hw';go_simp
         try rfl
        conv=>arg 10;simp only[Act.put,zq0,zq1,zq2]
       refine FS.Jf rfl rfl rfl (fun w' hw'=>?_) ?_
       ·have hb':=hw'.world;refine FS.Jo (FS.PK (.bool true)) ?_ (fun _ _ h=>h.post);go_simp;have CT:=(show Calls Tryz.prog 128 #[.agg #[.bool t.c.t.s,.slice t.c.t.a t.c.t.n t.c.t.c,.bool t.c.l.s,.slice t.c.l.a t.c.l.n t.c.l.c]] w' _ from Xp (x:=t.c) (NF.o.below hb') HLF.o);refine CT.mono ?_;rintro e w'' ⟨rfl,hb⟩;exact⟨_,rfl,rfl,hb⟩
       rintro _ rfl
       conv=>arg 10;simp only[Act.put,zq0,zq1,zq2]
       iterate 2
        refine FS.Jb rfl rfl rfl ?_ (fun w' hw'=>?_) ?_;rotate_left
        ·have hb':=hw'.world;skip;clear hw';go_simp
         try rfl
        conv=>arg 10;simp only[Act.put,zq0,zq1,zq2]
       iterate 5
        refine FS.Jk (by rfl) rfl rfl ?_ (fun w' hw'=>?_) ?_;rotate_left
        ·have hb':=hw'.world;have hn:=HKL.o;obtain⟨hs0,hs1,hs2,hs3,hs4,hs5,hs6,hs7⟩:=(E1.o.below hb').eight;clear hw';go_simp
         try rfl
        conv=>arg 10;simp only[Act.put,zq0,zq1,zq2]
       refine FS.JA (by rfl) rfl rfl (fun w' hw'=>?_) ?_
       ·have hb':=hw'.world;refine FS.Jo (FS.PK (.int .i64 sg)) ?_ (fun _ _ h=>h.post);go_simp;have CT:=(show Calls Tryz.prog 77 #[.agg #[.bool t.c.t.s,.slice t.c.t.a t.c.t.n t.c.t.c,.bool t.c.l.s,.slice t.c.l.a t.c.l.n t.c.l.c]] w' _ from jaj (x:=t.c) (NF.o.below hb').any HLF.o);rw[show JB q.num 0=sg from HSG.o] at CT;refine CT.mono ?_;rintro e w'' ⟨rfl,hb⟩;exact⟨_,rfl,rfl,hb⟩
       rintro _ rfl
       conv=>arg 10;simp only[Act.put,zq0,zq1,zq2]
       refine FS.Jk (by rfl) rfl rfl ?_ (fun w' hw'=>?_) ?_;rotate_left
       ·have hb':=hw'.world;skip;clear hw';go_simp
        try rfl
       conv=>arg 10;simp only[Act.put,zq0,zq1,zq2]
       iterate 2
        refine FS.Jb rfl rfl rfl ?_ (fun w' hw'=>?_) ?_;rotate_left
        ·have hb':=hw'.world;skip;clear hw';go_simp
         try rfl
        conv=>arg 10;simp only[Act.put,zq0,zq1,zq2]
       iterate 14
        refine FS.Jk (by rfl) rfl rfl ?_ (fun w' hw'=>?_) ?_;rotate_left
        ·have hb':=hw'.world;have hj:=EJW.o;have hn:=HJN.o;obtain⟨hs0,hs1,hs2,hs3,hs4,hs5,hs6,hs7⟩:=(EJ.o.below hb').eight;have hn:=HKL.o;obtain⟨hs0,hs1,hs2,hs3,hs4,hs5,hs6,hs7⟩:=(E1.o.below hb').eight;clear hw';go_simp
         try rfl
        conv=>arg 10;simp only[Act.put,zq0,zq1,zq2]
       refine FS.JA (by rfl) rfl rfl (fun w' hw'=>?_) ?_
       ·have hb':=hw'.world;refine FS.Jo (FS.PK (.int .i64 fv)) ?_ (fun _ _ h=>h.post);go_simp;have CT:=(show Calls Tryz.prog 151 #[.int .u8 0,.agg #[.int .u16 tj.m.x,.int .u16 tj.m.y,.int .u16 tj.m.z,.int .u16 tj.m.t],.agg #[.int .u16 t.m.x,.int .u16 t.m.y,.int .u16 t.m.z,.int .u16 t.m.t]] w' _ from rcmpV 0 tj.m t.m w' HS2.o HS1.o);rw[show Mono.JB (Uw 0 tj.m) (Uw 0 t.m)=fv from HFV.o] at CT;refine CT.mono ?_;rintro e w'' ⟨rfl,hb⟩;exact⟨_,rfl,rfl,hb⟩
       rintro _ rfl
       conv=>arg 10;simp only[Act.put,zq0,zq1,zq2]
       iterate 2
        refine FS.Jk (by rfl) rfl rfl ?_ (fun w' hw'=>?_) ?_;rotate_left
        ·have hb':=hw'.world;skip;clear hw';go_simp
         try rfl
        conv=>arg 10;simp only[Act.put,zq0,zq1,zq2]
       refine FS.Jn (fun w105 hb hF=>?_);clear hF;have KG:=qk KG hb;clear hb;go_wp2_with fail
       go_ret;exact⟨by rw[HEND.o] <;> rfl,KG.o⟩
  ·have HEND:=qh (show true=bv by
    rw[HBV.o]
    exact(decide_eq_true (by have:=HKK0.o;have:=HK0.o;have:=HLN.o;omega)).symm)
   have hge:¬((k:Int)<(xn:Int)):=by omega
   clear hkl;go_wp2_with fail
   go_ret;exact⟨by rw[HEND.o] <;> rfl,KG.o⟩
theorem Km {w:World} {x:PV} {P:List Tm} (h:KP w x P) (hq:∀ t∈P,LQ t.2 900000) (hn:x.n<=1000000000):Calls Tryz.prog 54 #[x.v] w fun e w'=>e=.returned (.bool true)/\Below w.heap.size w w':=by
 obtain⟨K,h1,h2,h3,h4⟩:=h.ex
 have hR:Ul w x (K.map fun e=>(e.1,some e.2)):=by
  refine⟨by rw[List.map_map];exact h1,by rw[List.length_map];exact h2,h.le,fun e he=>?_,fun e he=>?_,fun e he=>?_⟩
  ·obtain⟨f,hf,rfl⟩:=List.mem_map.1 he;exact h3 f hf
  ·obtain⟨f,hf,rfl⟩:=List.mem_map.1 he;exact h.small (tm f) (by rw[<- h4];exact List.mem_map_of_mem hf)
  ·obtain⟨f,hf,rfl⟩:=List.mem_map.1 he;exact(h3 f hf).len (hq (tm f) (by rw[<- h4];exact List.mem_map_of_mem hf)) zj
 have hok:okP (K.map fun e=>(e.1,some e.2)):=by
  refine⟨P,?_,h.canon⟩;rw[X3];refine⟨by rw[<- h4,List.length_map,List.length_map],fun i e he=>?_⟩;rw[List.getElem?_map] at he
  cases hk:K[i]? with
  | none=>rw[hk] at he;cases he
  | some f =>
   rw[hk] at he
   obtain rfl:(f.1,some f.2)=e:=by simpa using he
   exact⟨f.2,rfl,by rw[<- h4,List.getElem?_map,hk];rfl⟩
 have g:=Va x _ (K.map fun e=>(e.1,some e.2)).length w hR hn zj ((Y5 _).1 hok) (fun h=>absurd h (by omega));rwa [decide_eq_true rfl] at g
theorem jb7 {w:World} {x:PV} (h:BP w x) (hn:x.n<=1000000000):Calls Tryz.prog 54 #[x.v] w fun e w'=>e=.returned (.bool false)/\Below w.heap.size w w':=by
 obtain⟨L,hR,hk⟩:=h;rw[Y5] at hk
 have first:∀ n,n<=L.length->(∀ i,i<n->Ok1 L i)\/∃ k0,k0<n/\(∀ i,i<k0->Ok1 L i)/\¬Ok1 L k0:=by
  intro n
  induction n with
  | zero=>exact fun _=>Or.inl fun i hi=>by omega
  | succ n ih =>
   intro hn
   rcases ih (by omega) with h1 | ⟨k0,h1,h2⟩
   ·by_cases h2:Ok1 L n
    ·exact Or.inl fun i hi=>(Nat.lt_or_eq_of_le (Nat.le_of_lt_succ hi)).elim (h1 i) (fun e=>e▸h2)
    ·exact Or.inr ⟨n,by omega,h1,h2⟩
   ·exact Or.inr ⟨k0,by omega,h2⟩
 rcases first L.length zj with h1 | ⟨k0,h1,h2,h3⟩
 ·exact absurd h1 hk
 ·have g:=Va x L k0 w hR hn (Nat.le_of_lt h1) h2 (fun _=>h3);rwa [zo (by omega)] at g
structure RS (w:World) (a:Option Addr) (ps:List PV):Prop where
 ex:ps≠[]->∃ b off,a=some ⟨b,off,none⟩/\∀ i p,ps[i]?=some p->w.cell? ⟨b,off+i,none⟩=some p.v
theorem RS.nil (w:World) (a:Option Addr):RS w a []:=⟨fun h=>absurd rfl h⟩
def pw (l:Nat->Rat) (m:Mo) (q:Rat):Nat->Rat
 | 0=>q
 | i+1=>pw l m q i*l i ^ m.at i
theorem KH (l:Nat->Rat) (m:Mo) (q:Rat):pw l m q 4=q*atM l m:=by
 show q*l 0 ^ m.x*l 1 ^ m.y*l 2 ^ m.z*l 3 ^ m.t=_;unfold atM;grind
theorem jdn {l:Nat->Rat} {m:Mo} {q:Rat} {kp kl E:Nat} (hq:LQ q kp) (hl:∀ i,LQ (l i) kl) (hm:∀ i,m.at i<=E):∀ i,LQ (pw l m q i) (kp+i*(E*kl+1))
 | 0=>hq.up (by omega)
 | i+1=>by
  have h1:=(JZ (hl i) (m.at i)).up (Nat.add_le_add_right (Nat.mul_le_mul_right kl (hm i)) 1);exact((jdn hq hl hm i).ls.mul h1.ls).lq (by rw[Nat.add_mul];omega) (by rw[Nat.add_mul];omega)
theorem ev_nq {f:Mo->Rat} {k:Nat}:∀ {L:List Tm},(∀ t∈L,LQ (t.2*f t.1) k)->ev L f=0\/∃ j,0<j/\j<=L.length/\NQ (ev L f) j k
 | [],_=>Or.inl rfl
 | t :: r,h=>by
  have h1:=NQ.one (h t (List.mem_cons_self ..));rw[Jw]
  rcases ev_nq (L:=r) (f:=f) fun u hu=>h u (List.mem_cons_of_mem _ hu) with h2 | ⟨j,h3,h4,h5⟩
  ·rw[h2,Rat.add_zero];exact Or.inr ⟨1,by omega,by rw[List.length_cons];omega,h1⟩
  ·exact Or.inr ⟨1+j,by omega,by rw[List.length_cons];omega,h1.add h5 (by omega) h3⟩
theorem ZC {w:World} {b:Nat} {t:TypeId} {u0 u1 u2 u3 u4 u5 u6 u7:Value} (h:Bxs w b t [u0,u1,u2,u3,u4,u5,u6,u7]) (v0 v1 v2 v3:Value):Bxs (Zl w b v0 v1 v2 v3) b t [v0,v1,v2,v3,u4,u5,u6,u7]:=(((h.put 0 v0).put 1 v1).put 2 v2).put 3 v3
theorem Xf {w:World} {lo b:Nat} {x:FV} {q:Rat} {t:TypeId} {u0 u1 u2 u3 u4 u5 u6 u7:Value} (h:DF w lo x q) (hb:Bxs w b t [u0,u1,u2,u3,u4,u5,u6,u7]) (ht:160≠t) (v0 v1 v2 v3:Value):DF (Zl w b v0 v1 v2 v3) lo x q :=
 (((h.Jr hb ht 0 v0).Jr (hb.put 0 v0) ht 1 v1).Jr ((hb.put 0 v0).put 1 v1) ht 2 v2).Jr (((hb.put 0 v0).put 1 v1).put 2 v2) ht 3 v3
theorem at_one (m:Mo) (i:Nat) (E:Nat) (h:m.le E):m.at i<=E:=by
 obtain⟨h1,h2,h3,h4⟩:=h;unfold Mo.at;split
 ·exact h1
 ·split
  ·exact h2
  ·split
   ·exact h3
   ·exact h4
theorem at_k (x:PV) (P:List Tm) (x0 x1 x2 x3:FV) (l:Nat->Rat) (kp kl E:Nat) (w:World) (hx:KP w x P) (h4:K4 w x0 x1 x2 x3 l) (hp:∀ t∈P,LQ t.2 kp/\t.1.le E) (hl:∀ i,LQ (l i) kl)
  (hn:P.length<=1000000) (hE:E<=65535) (hk:(P.length+1)*(kp+4*(E*kl+1)+1)<=900000) (hkl:kl<=900000) :
  Calls Tryz.prog 27 #[x.v,.agg #[.bool x0.t.s,.slice x0.t.a x0.t.n x0.t.c,.bool x0.l.s,.slice x0.l.a x0.l.n x0.l.c,.bool x1.t.s,.slice x1.t.a x1.t.n x1.t.c,.bool x1.l.s,.slice x1.l.a x1.l.n x1.l.c,.bool x2.t.s,.slice x2.t.a x2.t.n x2.t.c,.bool x2.l.s,.slice x2.l.a x2.l.n x2.l.c,.bool x3.t.s,.slice x3.t.a x3.t.n x3.t.c,.bool x3.l.s,.slice x3.l.a x3.l.n x3.l.c]] w fun e w'=>∃ y:FV,e=.returned (.tuple #[y.v,.int .i64 0])/\DF w' w.heap.size y (ev P (atM l))/\Below w.heap.size w w':=by
 obtain⟨V0,hV⟩:∃ V,V=(w.alloc (.cells #[.bool x0.t.s,.slice x0.t.a x0.t.n x0.t.c,.bool x0.l.s,.slice x0.l.a x0.l.n x0.l.c,.bool x1.t.s,.slice x1.t.a x1.t.n x1.t.c,.bool x1.l.s,.slice x1.l.a x1.l.n x1.l.c,.bool x2.t.s,.slice x2.t.a x2.t.n x2.t.c,.bool x2.l.s,.slice x2.l.a x2.l.n x2.l.c,.bool x3.t.s,.slice x3.t.a x3.t.n x3.t.c,.bool x3.l.s,.slice x3.l.a x3.l.n x3.l.c] 58)).alloc (.cells #[.bool false,.slice none 0 0,.bool false,.slice none 0 0] 28):=⟨_,rfl⟩
 have hbV:Below w.heap.size w V0:=by rw[hV];exact(zk.alloc zj _).alloc (by go_size) _
 have B3:=qh (show Bxs V0 w.heap.size 58 [.bool x0.t.s,.slice x0.t.a x0.t.n x0.t.c,.bool x0.l.s,.slice x0.l.a x0.l.n x0.l.c,.bool x1.t.s,.slice x1.t.a x1.t.n x1.t.c,.bool x1.l.s,.slice x1.l.a x1.l.n x1.l.c,.bool x2.t.s,.slice x2.t.a x2.t.n x2.t.c,.bool x2.l.s,.slice x2.l.a x2.l.n x2.l.c,.bool x3.t.s,.slice x3.t.a x3.t.n x3.t.c,.bool x3.l.s,.slice x3.l.a x3.l.n x3.l.c] by rw[hV];exact(Bxs.new w 58 [.bool x0.t.s,.slice x0.t.a x0.t.n x0.t.c,.bool x0.l.s,.slice x0.l.a x0.l.n x0.l.c,.bool x1.t.s,.slice x1.t.a x1.t.n x1.t.c,.bool x1.l.s,.slice x1.l.a x1.l.n x1.l.c,.bool x2.t.s,.slice x2.t.a x2.t.n x2.t.c,.bool x2.l.s,.slice x2.l.a x2.l.n x2.l.c,.bool x3.t.s,.slice x3.t.a x3.t.n x3.t.c,.bool x3.l.s,.slice x3.l.a x3.l.n x3.l.c]).alloc _)
 have B4:=qh (show Bxs V0 (w.heap.size+1) 28 [.bool false,.slice none 0 0,.bool false,.slice none 0 0] by
  have h:=Bxs.new (w.alloc (.cells #[.bool x0.t.s,.slice x0.t.a x0.t.n x0.t.c,.bool x0.l.s,.slice x0.l.a x0.l.n x0.l.c,.bool x1.t.s,.slice x1.t.a x1.t.n x1.t.c,.bool x1.l.s,.slice x1.l.a x1.l.n x1.l.c,.bool x2.t.s,.slice x2.t.a x2.t.n x2.t.c,.bool x2.l.s,.slice x2.l.a x2.l.n x2.l.c,.bool x3.t.s,.slice x3.t.a x3.t.n x3.t.c,.bool x3.l.s,.slice x3.l.a x3.l.n x3.l.c] 58)) 28 [.bool false,.slice none 0 0,.bool false,.slice none 0 0];rw[World.size_alloc] at h
  rw[hV];exact h)
 have hkt:kp+4*(E*kl+1)+1<=900000:=zm (Nat.le_mul_of_pos_left _ (Nat.succ_pos _)) hk;have hxl:=hx.len;have CK:=qh (Y6 (hx.below hbV) (fun t ht=>(hp t ht).1.up (by omega)) (by omega));have HX:=qh hx;have H4:=qh h4;have HP:=qh hp;have HLK:=qh hl;have HN:=qh hn;have HEE:=qh hE;have HK:=qh hk;have HKT:=qh hkt;have HLQ:=qh (show ∀ i,LQ (l i) 900000 from fun i=>(hl i).up hkl);have KG:=qh hbV;have HV:=qh hV;obtain⟨A3,hA3⟩:∃ A,A=w.heap.size:=⟨_,rfl⟩;obtain⟨A4,hA4⟩:∃ A,A=w.heap.size+1:=⟨_,rfl⟩;have HA3:=qh (show w.heap.size<=A3 by omega);have HA4:=qh (show w.heap.size<=A4 by omega);have HN34:=qh (show A3≠A4 by omega);rw[<- hA4] at B4;rw[<- hA3] at B3;have HE4:=qh hA4;have HE3:=qh hA3;obtain⟨L1,g1,g2,g3,g4⟩:=hx.ex;have R1:=qh g1;have F1:=qh g3;have T1:=qh g4;obtain⟨xa,xn,xc⟩:=x;have N1:=qh (show L1.length=xn from g2);have HXL:=qh (show xn=P.length from hxl);change Calls Tryz.prog 27 #[.slice xa xn xc,.agg #[.bool x0.t.s,.slice x0.t.a x0.t.n x0.t.c,.bool x0.l.s,.slice x0.l.a x0.l.n x0.l.c,.bool x1.t.s,.slice x1.t.a x1.t.n x1.t.c,.bool x1.l.s,.slice x1.l.a x1.l.n x1.l.c,.bool x2.t.s,.slice x2.t.a x2.t.n x2.t.c,.bool x2.l.s,.slice x2.l.a x2.l.n x2.l.c,.bool x3.t.s,.slice x3.t.a x3.t.n x3.t.c,.bool x3.l.s,.slice x3.l.a x3.l.n x3.l.c]] w _;clear hV hbV hx h4 hp hl hn hE hk hkl hkt hxl hA3 hA4 g1 g2 g3 g4;go_enter Tryz.func27,Tryz.ntmps27
 go_upto_region 1 with (fail)
 rw[show(w.alloc (.cells #[.bool x0.t.s,.slice x0.t.a x0.t.n x0.t.c,.bool x0.l.s,.slice x0.l.a x0.l.n x0.l.c,.bool x1.t.s,.slice x1.t.a x1.t.n x1.t.c,.bool x1.l.s,.slice x1.l.a x1.l.n x1.l.c,.bool x2.t.s,.slice x2.t.a x2.t.n x2.t.c,.bool x2.l.s,.slice x2.l.a x2.l.n x2.l.c,.bool x3.t.s,.slice x3.t.a x3.t.n x3.t.c,.bool x3.l.s,.slice x3.l.a x3.l.n x3.l.c] 58)).alloc (.cells #[.bool false,.slice none 0 0,.bool false,.slice none 0 0] 28)=V0 from HV.o.symm,show w.heap.size+1=A4 from HE4.o.symm,show w.heap.size=A3 from HE3.o.symm];go_wp2_with fail
 with_reducible refine CK.o.mono ?_
 rintro e w1 ⟨rfl,hb⟩;have B3:=qh (B3.o.bl hb);have B4:=qh (B4.o.bl hb);have KG:=qk KG hb;have CN:=qh (con_k A3 x0 x1 x2 x3 l w1 B3.o (H4.o.below KG.o) HLQ.o);clear hb CK;go_wp2_with fail
 with_reducible refine CN.o.mono ?_
 rintro e w2 ⟨rfl,hb⟩;have B3:=qh (B3.o.bl hb);have B4:=qh (B4.o.bl hb);have KG:=qk KG hb;have OF:=qh (qof 0 w2 (by decide) (by decide));clear hb CN;go_wp2_with fail
 with_reducible refine OF.o.mono ?_
 rintro e w3 ⟨y,rfl,hy,hb⟩;have B3:=qh (B3.o.bl hb);have B4:=qh (B4.o.bl hb);have HSZ:=qh (show w.heap.size<=w2.heap.size from KG.o.size);have KG:=qk KG hb;have HY0:=qh hy;clear hy hb OF
 go_upto_region 4 with (fail)
 obtain⟨V,hV⟩:∃ V,V=w3.alloc (.cells #[.bool y.t.s,.slice y.t.a y.t.n y.t.c,.bool y.l.s,.slice y.l.a y.l.n y.l.c] 28):=⟨_,rfl⟩
 have hbV:Below w3.heap.size w3 V:=by rw[hV];exact zk.alloc zj _
 have B6:=qh (show Bxs V w3.heap.size 28 [.bool y.t.s,.slice y.t.a y.t.n y.t.c,.bool y.l.s,.slice y.l.a y.l.n y.l.c] by rw[hV];exact Bxs.new w3 28 [.bool y.t.s,.slice y.t.a y.t.n y.t.c,.bool y.l.s,.slice y.l.a y.l.n y.l.c]);obtain⟨A6,hA6⟩:∃ A,A=w3.heap.size:=⟨_,rfl⟩;have HN36:=qh (show A3≠A6 by have:=B3.o.lt;omega);have HN46:=qh (show A4≠A6 by have:=B4.o.lt;omega);have HA6:=qh (show w.heap.size<=A6 by have:=KG.o.size;omega);have B3:=qh (B3.o.bl hbV);have B4:=qh (B4.o.bl hbV);have KG:=qk KG hbV;have NS:=qh (show DF V w.heap.size y (ev (P.take 0) (atM l)) from(HY0.o.below hbV).mono HSZ.o);rw[<- hV,<- hA6];rw[<- hA6] at B6;have HW4:=qh H4.o;clear hV hbV hA6 HY0 H4;go_wp2_with fail
 go_loopw [22] (fun i wr=>∃ (j:Nat) (xs:FV),j<=xn/\i=.int .i64 j/\DF wr w.heap.size xs (ev (P.take j) (atM l))/\Bxs wr A3 58 [.bool x0.t.s,.slice x0.t.a x0.t.n x0.t.c,.bool x0.l.s,.slice x0.l.a x0.l.n x0.l.c,.bool x1.t.s,.slice x1.t.a x1.t.n x1.t.c,.bool x1.l.s,.slice x1.l.a x1.l.n x1.l.c,.bool x2.t.s,.slice x2.t.a x2.t.n x2.t.c,.bool x2.l.s,.slice x2.l.a x2.l.n x2.l.c,.bool x3.t.s,.slice x3.t.a x3.t.n x3.t.c,.bool x3.l.s,.slice x3.l.a x3.l.n x3.l.c]/\Bxs wr A4 28 [.bool false,.slice none 0 0,.bool false,.slice none 0 0]/\Bxs wr A6 28 [.bool xs.t.s,.slice xs.t.a xs.t.n xs.t.c,.bool xs.l.s,.slice xs.l.a xs.l.n xs.l.c]/\Below w.heap.size w wr) (fun i _=>xn-(intOf i).toNat)
 case atStart=>exact⟨0,y,Nat.zero_le _,rfl,NS.o,B3.o,B4.o,B6.o,KG.o⟩
 case round =>
  obtain⟨j,xs,hj,rfl,hs,hb3,hb4,hb6,hb0⟩:=hrel;have HJ:=qh hj;have NS:=qh hs;have B3:=qh hb3;have B4:=qh hb4;have B6:=qh hb6;have KG:=qh hb0;clear hj hs hb3 hb4 hb6 hb0
  have HSQ:=qh (show LQ (ev (P.take j) (atM l)) 900000 from by
   have h:=ev_nq (L:=P.take j) (f:=atM l) (k:=kp+4*(E*kl+1)) (fun t ht=>by
    have hm:=List.mem_of_mem_take ht;rw[<- KH]
    exact jdn (HP.o t hm).1 HLK.o (fun i=>at_one t.1 i E (HP.o t hm).2) 4)
   rcases h with h | ⟨n,h1,h2,h3⟩
   ·rw[h];exact jei (by decide)
   ·exact h3.lq (zm (Nat.mul_le_mul_right _ (by rw[List.length_take] at h2;omega)) HK.o))
  by_cases hjn:j<xn
  ·have HJN:=qh hjn
   have hjl:j<L1.length:=by rw[N1.o];exact hjn
   obtain⟨pb,po,rfl,hcs⟩:=(R1.o.below KG.o).one (fun h=>by rw[List.map_eq_nil_iff] at h;rw[h] at hjl;simp at hjl);obtain⟨e,he⟩:∃ e,L1[j]?=some e:=⟨_,List.getElem?_eq_getElem hjl⟩;obtain⟨t,q⟩:=e;obtain⟨c0,c1,c2,c3,c4,c5,c6,c7⟩:=(hcs j t (by rw[List.getElem?_map,he];rfl)).eight;have hmem:=List.mem_of_getElem? he;have HPJ:=qh (show P[j]?=some (t.m,q) by rw[<- T1.o,List.getElem?_map,he];rfl);have NT:=qh (show KF w t.c q from F1.o _ hmem);have hpm:=List.mem_of_getElem? HPJ.o;have HTQ:=qh (show LQ q kp from(HP.o _ hpm).1);have HTE:=qh (show ∀ i,t.m.at i<=E from fun i=>at_one t.m i E (HP.o _ hpm).2);have LW:=qh (show ∀ i,i<=4->LQ (pw l t.m q i) 900000 from fun i hi=>(jdn HTQ.o HLK.o HTE.o i).up (by have:=HKT.o;have:=Nat.mul_le_mul_right (E*kl+1) hi;omega))
   have PK:∀ i,t.m.at i*kl+1<=900000:=fun i=>by have:=HKT.o;have:=Nat.mul_le_mul_right kl (HTE.o i);omega
   have SM:∀ i,t.m.at i<=65535:=fun i=>zm (HTE.o i) HEE.o
   clear hcs he hjl hmem hpm
   go_upto_region 7 with (fail)
   obtain⟨V,hV⟩:∃ V,V=wr.alloc (.cells #[.bool t.c.t.s,.slice t.c.t.a t.c.t.n t.c.t.c,.bool t.c.l.s,.slice t.c.l.a t.c.l.n t.c.l.c,.int .u16 t.m.x,.int .u16 t.m.y,.int .u16 t.m.z,.int .u16 t.m.t] 71):=⟨_,rfl⟩
   have hbV:Below wr.heap.size wr V:=by rw[hV];exact zk.alloc zj _
   have B8:=qh (show Bxs V wr.heap.size 71 [.bool t.c.t.s,.slice t.c.t.a t.c.t.n t.c.t.c,.bool t.c.l.s,.slice t.c.l.a t.c.l.n t.c.l.c,.int .u16 t.m.x,.int .u16 t.m.y,.int .u16 t.m.z,.int .u16 t.m.t] by rw[hV];exact Bxs.new wr 71 [.bool t.c.t.s,.slice t.c.t.a t.c.t.n t.c.t.c,.bool t.c.l.s,.slice t.c.l.a t.c.l.n t.c.l.c,.int .u16 t.m.x,.int .u16 t.m.y,.int .u16 t.m.z,.int .u16 t.m.t]);obtain⟨A8,hA8⟩:∃ A,A=wr.heap.size:=⟨_,rfl⟩;have HN38:=qh (show A3≠A8 by have:=B3.o.lt;omega);have HN48:=qh (show A4≠A8 by have:=B4.o.lt;omega);have HN68:=qh (show A6≠A8 by have:=B6.o.lt;omega);have HA8:=qh (show w.heap.size<=A8 by have:=KG.o.size;omega);have B3:=qh (B3.o.bl hbV);have B4:=qh (B4.o.bl hbV);have B6:=qh (B6.o.bl hbV);have NS:=qh (NS.o.below hbV);have KG:=qk KG hbV;rw[<- hV,<- hA8];rw[<- hA8] at B8;have ek:IntKind.i64.wrap ((j:Int)+1)=(j:Int)+1:=IntWalk.i64_in _ (by have:=HJN.o;have:=HXL.o;have:=HN.o;omega);clear hV hbV hA8 c0 c1 c2 c3 c4 c5 c6 c7 hjn;have c0:=B8.o.ce 0;have c1:=B8.o.ce 1;have c2:=B8.o.ce 2;have c3:=B8.o.ce 3;have c4:=B8.o.ce 4;have c5:=B8.o.ce 5;have c6:=B8.o.ce 6;have c7:=B8.o.ce 7;go_wp2_with fail
   clear c0 c1 c2 c3 c4 c5 c6 c7;go_loopw [28] (fun i wr=>∃ (i':Nat) (xv:FV),((i'=0/\i=.int .i64 0)\/(i'=1/\i=.int .i64 1)\/(i'=2/\i=.int .i64 2)\/(i'=3/\i=.int .i64 3)\/(i'=4/\i=.int .i64 4))/\KF wr xv (pw l t.m q i')/\Bxs wr A8 71 [.bool xv.t.s,.slice xv.t.a xv.t.n xv.t.c,.bool xv.l.s,.slice xv.l.a xv.l.n xv.l.c,.int .u16 t.m.x,.int .u16 t.m.y,.int .u16 t.m.z,.int .u16 t.m.t]/\Bxs wr A3 58 [.bool x0.t.s,.slice x0.t.a x0.t.n x0.t.c,.bool x0.l.s,.slice x0.l.a x0.l.n x0.l.c,.bool x1.t.s,.slice x1.t.a x1.t.n x1.t.c,.bool x1.l.s,.slice x1.l.a x1.l.n x1.l.c,.bool x2.t.s,.slice x2.t.a x2.t.n x2.t.c,.bool x2.l.s,.slice x2.l.a x2.l.n x2.l.c,.bool x3.t.s,.slice x3.t.a x3.t.n x3.t.c,.bool x3.l.s,.slice x3.l.a x3.l.n x3.l.c]/\Bxs wr A4 28 [.bool false,.slice none 0 0,.bool false,.slice none 0 0]/\Bxs wr A6 28 [.bool xs.t.s,.slice xs.t.a xs.t.n xs.t.c,.bool xs.l.s,.slice xs.l.a xs.l.n xs.l.c]/\DF wr w.heap.size xs (ev (P.take j) (atM l))/\Below w.heap.size w wr) (fun i _=>4-(intOf i).toNat)
   case atStart=>exact⟨0,t.c,.inl ⟨rfl,rfl⟩,NT.o.below KG.o,B8.o,B3.o,B4.o,B6.o,NS.o,KG.o⟩
   case round =>
    obtain⟨i,xv,hi,hv,hb8,hb3,hb4,hb6,hs,hb0⟩:=hrel;have NV:=qh hv;have B8:=qh hb8;have B3:=qh hb3;have B4:=qh hb4;have B6:=qh hb6;have NS:=qh hs;have KG:=qh hb0;clear hv hb8 hb3 hb4 hb6 hs hb0
    rcases hi with ⟨rfl,rfl⟩ | ⟨rfl,rfl⟩ | ⟨rfl,rfl⟩ | ⟨rfl,rfl⟩ | ⟨rfl,rfl⟩
    ·have ix0:∀ w,(Instr.index 69 (.agg #[.int .u16 t.m.x,.int .u16 t.m.y,.int .u16 t.m.z,.int .u16 t.m.t]) (.int .i64 0)).run Tryz.prog w=.ok (.int .u16 t.m.x) w:=fun _=>by kernel_rfl
     have HPK0:=qh (show t.m.x*kl+1<=900000 from PK 0);have HSM0:=qh (show t.m.x<=65535 from SM 0);have HPW0:=qh (show LQ (l 0 ^ t.m.x) 900000 from(JZ (HLK.o 0) _).up HPK0.o);have NV:=qh (show KF wr xv (pw l t.m q 0) from NV.o);obtain⟨qv,hqv⟩:∃ v,v=pw l t.m q 0:=⟨_,rfl⟩;rw[<- hqv] at NV;have LQqv:=qh (show LQ qv 900000 by rw[hqv];exact LW.o 0 (by omega));have HQV:=qh hqv;clear hqv;have H4:=qh (HW4.o.below KG.o);obtain⟨q101,hq101⟩:∃ z:Rat,z=l 0 ^ t.m.x:=⟨_,rfl⟩;have Hq101:=qh hq101;have LQq101:=qh (show LQ q101 900000 by rw[hq101];exact HPW0.o);clear hq101;obtain⟨q102,hq102⟩:∃ z:Rat,z=qv*q101:=⟨_,rfl⟩;have Hq102:=qh hq102;have LQq102:=qh (show LQ q102 1800000 by rw[hq102];exact LQ.mul (LQqv.o.up (by decide:_<=900000)) (LQq101.o.up (by decide:_<=900000)) (by decide));clear hq102
     go_upto_region 10 with (fail)
     refine FS.Jc 9 [] (FS.JM [(6,FS.Sp.made (fun x:FV=>x.v) (fun x w'=>DF w' wr.heap.size x q101) FV.blk),(7,FS.Sp.made (fun x:FV=>x.v) (fun x w'=>DF w' wr.heap.size x q102) FV.blk)])
      (fun w'=>Below wr.heap.size wr w') (by kernel_rfl) (by kernel_rfl) (by kernel_rfl)
      (FS.Jd (FS.Sp.Jg _ (fun _ _ _ h _ hk=>h.kept hk) (FS.JJ (by kernel_rfl))) (FS.Jd (FS.Sp.Jg _ (fun _ _ _ h _ hk=>h.kept hk) (FS.JJ (by kernel_rfl))) (FS.Jl))) (fun _ _ h hb=>h.trans (hb.mono h.size)) (zk.drew) ?_
     simp only[zu,zi,ze,zx,zy,zv,zw]
     iterate 6
      refine FS.Jb rfl rfl rfl ?_ (fun w' hw'=>?_) ?_;rotate_left
      ·have hb':=hw'.world;have hs0:=(B8.o.bl hb').ce 0;have hs1:=(B8.o.bl hb').ce 1;have hs2:=(B8.o.bl hb').ce 2;have hs3:=(B8.o.bl hb').ce 3;have hs4:=(B8.o.bl hb').ce 4;have hs5:=(B8.o.bl hb').ce 5;have hs6:=(B8.o.bl hb').ce 6;have hs7:=(B8.o.bl hb').ce 7;have hsf:=(B8.o.bl hb').fz;have hsl:=(B8.o.bl hb').lt;have hs0:=(B3.o.bl hb').ce 0;have hs1:=(B3.o.bl hb').ce 1;have hs2:=(B3.o.bl hb').ce 2;have hs3:=(B3.o.bl hb').ce 3;clear hw';go_simp
       try rfl
      conv=>arg 10;simp only[Act.put,zq0,zq1,zq2]
     refine FS.Jf rfl rfl rfl (fun w' hw'=>?_) ?_
     ·have hb':=hw'.world;refine FS.Jo (FS.PM (fun x:FV=>x.v) (fun x w'=>DF w' wr.heap.size x q101) FV.blk w'.heap.size) ?_ (fun _ _ h=>h.post (fun _ _=>FV.inj));go_simp;have CT:=ZB x0 (l 0) t.m.x kl w' (H4.o.k0.below hb') (HLK.o 0) HSM0.o HPK0.o;rw[show l 0 ^ t.m.x=q101 from Hq101.o.symm] at CT;refine CT.mono ?_;rintro e w'' ⟨za,rfl,ho,hb⟩;exact⟨_,rfl,⟨za,rfl,ho.mono hb'.size,ho.QY⟩,hb⟩
     rintro _ ⟨y6,rfl⟩
     conv=>arg 10;simp only[Act.put,zq0,zq1,zq2]
     refine FS.Jf rfl rfl rfl (fun w' hw'=>?_) ?_
     ·have hb':=hw'.world;refine FS.Jo (FS.PM (fun x:FV=>x.v) (fun x w'=>DF w' wr.heap.size x q102) FV.blk w'.heap.size) ?_ (fun _ _ h=>h.post (fun _ _=>FV.inj));go_simp;have f6:=FS.JE (val:=(fun x:FV=>x.v)) (Φ:=fun x w'=>DF w' wr.heap.size x q101) (fun _ _=>FV.inj) (hw'.fact 6 (by kernel_rfl));have CT:=qmul ((NV.o.below hb')).any (((NV.o.below hb')).len LQqv.o (by decide:_<=900000)) (f6).k.any (((f6).k).len LQq101.o (by decide:_<=900000));rw[show qv*q101=q102 from Hq102.o.symm] at CT;refine CT.mono ?_;rintro e w'' ⟨za,rfl,ho,hb⟩;exact⟨_,rfl,⟨za,rfl,ho.mono hb'.size,ho.QY⟩,hb⟩
     rintro _ ⟨y7,rfl⟩
     conv=>arg 10;simp only[Act.put,zq0,zq1,zq2]
     refine FS.Jb rfl rfl rfl ?_ (fun w' hw'=>?_) ?_;rotate_left
     ·have hb':=hw'.world;skip;clear hw';go_simp
      try rfl
     conv=>arg 10;simp only[Act.put,zq0,zq1,zq2]
     refine FS.Jn (fun w103 hb hF=>?_);have N104:=qh (show DF w103 wr.heap.size y7 q102 from(FS.JE (val:=(fun x:FV=>x.v)) (Φ:=fun x w'=>DF w' wr.heap.size x q102) (fun _ _=>FV.inj) (hF.all 7)));clear hF;have NV:=qh (NV.o.below hb);have NS:=qh (NS.o.below hb);have H4:=qh (H4.o.below hb);have B8:=qh (B8.o.bl hb);have B3:=qh (B3.o.bl hb);have B4:=qh (B4.o.bl hb);have B6:=qh (B6.o.bl hb);have KG:=qk KG hb;clear hb;have HNW:=qh (show DF w103 wr.heap.size y7 (pw l t.m q 1) by rw[show pw l t.m q 1=pw l t.m q 0*l 0 ^ t.m.x from rfl,<- HQV.o,<- Hq101.o,<- Hq102.o];exact N104.o);have c80:=B8.o.ce 0;have c81:=B8.o.ce 1;have c82:=B8.o.ce 2;have c83:=B8.o.ce 3;have c84:=B8.o.ce 4;have c85:=B8.o.ce 5;have c86:=B8.o.ce 6;have c87:=B8.o.ce 7;have c8f:=B8.o.fz;have c8l:=B8.o.lt;go_wp2_with fail
     go_roundw
     case rel =>
      exact⟨1,y7,by simp,(Xf HNW.o B8.o (by decide) ..).k,ZC B8.o ..,Jp B3.o HN38.o ..,Jp B4.o HN48.o ..,Jp B6.o HN68.o ..,Xf NS.o B8.o (by decide) ..,Jv KG.o HA8.o ..⟩
     case measure=>simp[intOf]
    ·have ix1:∀ w,(Instr.index 69 (.agg #[.int .u16 t.m.x,.int .u16 t.m.y,.int .u16 t.m.z,.int .u16 t.m.t]) (.int .i64 1)).run Tryz.prog w=.ok (.int .u16 t.m.y) w:=fun _=>by kernel_rfl
     have HPK1:=qh (show t.m.y*kl+1<=900000 from PK 1);have HSM1:=qh (show t.m.y<=65535 from SM 1);have HPW1:=qh (show LQ (l 1 ^ t.m.y) 900000 from(JZ (HLK.o 1) _).up HPK1.o);have NV:=qh (show KF wr xv (pw l t.m q 1) from NV.o);obtain⟨qv,hqv⟩:∃ v,v=pw l t.m q 1:=⟨_,rfl⟩;rw[<- hqv] at NV;have LQqv:=qh (show LQ qv 900000 by rw[hqv];exact LW.o 1 (by omega));have HQV:=qh hqv;clear hqv;have H4:=qh (HW4.o.below KG.o);obtain⟨q101,hq101⟩:∃ z:Rat,z=l 1 ^ t.m.y:=⟨_,rfl⟩;have Hq101:=qh hq101;have LQq101:=qh (show LQ q101 900000 by rw[hq101];exact HPW1.o);clear hq101;obtain⟨q102,hq102⟩:∃ z:Rat,z=qv*q101:=⟨_,rfl⟩;have Hq102:=qh hq102;have LQq102:=qh (show LQ q102 1800000 by rw[hq102];exact LQ.mul (LQqv.o.up (by decide:_<=900000)) (LQq101.o.up (by decide:_<=900000)) (by decide));clear hq102
     go_upto_region 10 with (fail)
     refine FS.Jc 9 [] (FS.JM [(6,FS.Sp.made (fun x:FV=>x.v) (fun x w'=>DF w' wr.heap.size x q101) FV.blk),(7,FS.Sp.made (fun x:FV=>x.v) (fun x w'=>DF w' wr.heap.size x q102) FV.blk)])
      (fun w'=>Below wr.heap.size wr w') (by kernel_rfl) (by kernel_rfl) (by kernel_rfl)
      (FS.Jd (FS.Sp.Jg _ (fun _ _ _ h _ hk=>h.kept hk) (FS.JJ (by kernel_rfl))) (FS.Jd (FS.Sp.Jg _ (fun _ _ _ h _ hk=>h.kept hk) (FS.JJ (by kernel_rfl))) (FS.Jl))) (fun _ _ h hb=>h.trans (hb.mono h.size)) (zk.drew) ?_
     simp only[zu,zi,ze,zx,zy,zv,zw]
     iterate 6
      refine FS.Jb rfl rfl rfl ?_ (fun w' hw'=>?_) ?_;rotate_left
      ·have hb':=hw'.world;have hs0:=(B8.o.bl hb').ce 0;have hs1:=(B8.o.bl hb').ce 1;have hs2:=(B8.o.bl hb').ce 2;have hs3:=(B8.o.bl hb').ce 3;have hs4:=(B8.o.bl hb').ce 4;have hs5:=(B8.o.bl hb').ce 5;have hs6:=(B8.o.bl hb').ce 6;have hs7:=(B8.o.bl hb').ce 7;have hsf:=(B8.o.bl hb').fz;have hsl:=(B8.o.bl hb').lt;have hs4:=(B3.o.bl hb').ce 4;have hs5:=(B3.o.bl hb').ce 5;have hs6:=(B3.o.bl hb').ce 6;have hs7:=(B3.o.bl hb').ce 7;clear hw';go_simp
       try rfl
      conv=>arg 10;simp only[Act.put,zq0,zq1,zq2]
     refine FS.Jf rfl rfl rfl (fun w' hw'=>?_) ?_
     ·have hb':=hw'.world;refine FS.Jo (FS.PM (fun x:FV=>x.v) (fun x w'=>DF w' wr.heap.size x q101) FV.blk w'.heap.size) ?_ (fun _ _ h=>h.post (fun _ _=>FV.inj));go_simp;have CT:=ZB x1 (l 1) t.m.y kl w' (H4.o.k1.below hb') (HLK.o 1) HSM1.o HPK1.o;rw[show l 1 ^ t.m.y=q101 from Hq101.o.symm] at CT;refine CT.mono ?_;rintro e w'' ⟨za,rfl,ho,hb⟩;exact⟨_,rfl,⟨za,rfl,ho.mono hb'.size,ho.QY⟩,hb⟩
     rintro _ ⟨y6,rfl⟩
     conv=>arg 10;simp only[Act.put,zq0,zq1,zq2]
     refine FS.Jf rfl rfl rfl (fun w' hw'=>?_) ?_
     ·have hb':=hw'.world;refine FS.Jo (FS.PM (fun x:FV=>x.v) (fun x w'=>DF w' wr.heap.size x q102) FV.blk w'.heap.size) ?_ (fun _ _ h=>h.post (fun _ _=>FV.inj));go_simp;have f6:=FS.JE (val:=(fun x:FV=>x.v)) (Φ:=fun x w'=>DF w' wr.heap.size x q101) (fun _ _=>FV.inj) (hw'.fact 6 (by kernel_rfl));have CT:=qmul ((NV.o.below hb')).any (((NV.o.below hb')).len LQqv.o (by decide:_<=900000)) (f6).k.any (((f6).k).len LQq101.o (by decide:_<=900000));rw[show qv*q101=q102 from Hq102.o.symm] at CT;refine CT.mono ?_;rintro e w'' ⟨za,rfl,ho,hb⟩;exact⟨_,rfl,⟨za,rfl,ho.mono hb'.size,ho.QY⟩,hb⟩
     rintro _ ⟨y7,rfl⟩
     conv=>arg 10;simp only[Act.put,zq0,zq1,zq2]
     refine FS.Jb rfl rfl rfl ?_ (fun w' hw'=>?_) ?_;rotate_left
     ·have hb':=hw'.world;skip;clear hw';go_simp
      try rfl
     conv=>arg 10;simp only[Act.put,zq0,zq1,zq2]
     refine FS.Jn (fun w103 hb hF=>?_);have N104:=qh (show DF w103 wr.heap.size y7 q102 from(FS.JE (val:=(fun x:FV=>x.v)) (Φ:=fun x w'=>DF w' wr.heap.size x q102) (fun _ _=>FV.inj) (hF.all 7)));clear hF;have NV:=qh (NV.o.below hb);have NS:=qh (NS.o.below hb);have H4:=qh (H4.o.below hb);have B8:=qh (B8.o.bl hb);have B3:=qh (B3.o.bl hb);have B4:=qh (B4.o.bl hb);have B6:=qh (B6.o.bl hb);have KG:=qk KG hb;clear hb;have HNW:=qh (show DF w103 wr.heap.size y7 (pw l t.m q 2) by rw[show pw l t.m q 2=pw l t.m q 1*l 1 ^ t.m.y from rfl,<- HQV.o,<- Hq101.o,<- Hq102.o];exact N104.o);have c80:=B8.o.ce 0;have c81:=B8.o.ce 1;have c82:=B8.o.ce 2;have c83:=B8.o.ce 3;have c84:=B8.o.ce 4;have c85:=B8.o.ce 5;have c86:=B8.o.ce 6;have c87:=B8.o.ce 7;have c8f:=B8.o.fz;have c8l:=B8.o.lt;go_wp2_with fail
     go_roundw
     case rel =>
      exact⟨2,y7,by simp,(Xf HNW.o B8.o (by decide) ..).k,ZC B8.o ..,Jp B3.o HN38.o ..,Jp B4.o HN48.o ..,Jp B6.o HN68.o ..,Xf NS.o B8.o (by decide) ..,Jv KG.o HA8.o ..⟩
     case measure=>simp[intOf]
    ·have ix2:∀ w,(Instr.index 69 (.agg #[.int .u16 t.m.x,.int .u16 t.m.y,.int .u16 t.m.z,.int .u16 t.m.t]) (.int .i64 2)).run Tryz.prog w=.ok (.int .u16 t.m.z) w:=fun _=>by kernel_rfl
     have HPK2:=qh (show t.m.z*kl+1<=900000 from PK 2);have HSM2:=qh (show t.m.z<=65535 from SM 2);have HPW2:=qh (show LQ (l 2 ^ t.m.z) 900000 from(JZ (HLK.o 2) _).up HPK2.o);have NV:=qh (show KF wr xv (pw l t.m q 2) from NV.o);obtain⟨qv,hqv⟩:∃ v,v=pw l t.m q 2:=⟨_,rfl⟩;rw[<- hqv] at NV;have LQqv:=qh (show LQ qv 900000 by rw[hqv];exact LW.o 2 (by omega));have HQV:=qh hqv;clear hqv;have H4:=qh (HW4.o.below KG.o);obtain⟨q101,hq101⟩:∃ z:Rat,z=l 2 ^ t.m.z:=⟨_,rfl⟩;have Hq101:=qh hq101;have LQq101:=qh (show LQ q101 900000 by rw[hq101];exact HPW2.o);clear hq101;obtain⟨q102,hq102⟩:∃ z:Rat,z=qv*q101:=⟨_,rfl⟩;have Hq102:=qh hq102;have LQq102:=qh (show LQ q102 1800000 by rw[hq102];exact LQ.mul (LQqv.o.up (by decide:_<=900000)) (LQq101.o.up (by decide:_<=900000)) (by decide));clear hq102
     go_upto_region 10 with (fail)
     refine FS.Jc 9 [] (FS.JM [(6,FS.Sp.made (fun x:FV=>x.v) (fun x w'=>DF w' wr.heap.size x q101) FV.blk),(7,FS.Sp.made (fun x:FV=>x.v) (fun x w'=>DF w' wr.heap.size x q102) FV.blk)])
      (fun w'=>Below wr.heap.size wr w') (by kernel_rfl) (by kernel_rfl) (by kernel_rfl)
      (FS.Jd (FS.Sp.Jg _ (fun _ _ _ h _ hk=>h.kept hk) (FS.JJ (by kernel_rfl))) (FS.Jd (FS.Sp.Jg _ (fun _ _ _ h _ hk=>h.kept hk) (FS.JJ (by kernel_rfl))) (FS.Jl))) (fun _ _ h hb=>h.trans (hb.mono h.size)) (zk.drew) ?_
     simp only[zu,zi,ze,zx,zy,zv,zw]
     iterate 6
      refine FS.Jb rfl rfl rfl ?_ (fun w' hw'=>?_) ?_;rotate_left
      ·have hb':=hw'.world;have hs0:=(B8.o.bl hb').ce 0;have hs1:=(B8.o.bl hb').ce 1;have hs2:=(B8.o.bl hb').ce 2;have hs3:=(B8.o.bl hb').ce 3;have hs4:=(B8.o.bl hb').ce 4;have hs5:=(B8.o.bl hb').ce 5;have hs6:=(B8.o.bl hb').ce 6;have hs7:=(B8.o.bl hb').ce 7;have hsf:=(B8.o.bl hb').fz;have hsl:=(B8.o.bl hb').lt;have hs8:=(B3.o.bl hb').ce 8;have hs9:=(B3.o.bl hb').ce 9;have hs10:=(B3.o.bl hb').ce 10;have hs11:=(B3.o.bl hb').ce 11;clear hw';go_simp
       try rfl
      conv=>arg 10;simp only[Act.put,zq0,zq1,zq2]
     refine FS.Jf rfl rfl rfl (fun w' hw'=>?_) ?_
     ·have hb':=hw'.world;refine FS.Jo (FS.PM (fun x:FV=>x.v) (fun x w'=>DF w' wr.heap.size x q101) FV.blk w'.heap.size) ?_ (fun _ _ h=>h.post (fun _ _=>FV.inj));go_simp;have CT:=ZB x2 (l 2) t.m.z kl w' (H4.o.k2.below hb') (HLK.o 2) HSM2.o HPK2.o;rw[show l 2 ^ t.m.z=q101 from Hq101.o.symm] at CT;refine CT.mono ?_;rintro e w'' ⟨za,rfl,ho,hb⟩;exact⟨_,rfl,⟨za,rfl,ho.mono hb'.size,ho.QY⟩,hb⟩
     rintro _ ⟨y6,rfl⟩
     conv=>arg 10;simp only[Act.put,zq0,zq1,zq2]
     refine FS.Jf rfl rfl rfl (fun w' hw'=>?_) ?_
     ·have hb':=hw'.world;refine FS.Jo (FS.PM (fun x:FV=>x.v) (fun x w'=>DF w' wr.heap.size x q102) FV.blk w'.heap.size) ?_ (fun _ _ h=>h.post (fun _ _=>FV.inj));go_simp;have f6:=FS.JE (val:=(fun x:FV=>x.v)) (Φ:=fun x w'=>DF w' wr.heap.size x q101) (fun _ _=>FV.inj) (hw'.fact 6 (by kernel_rfl));have CT:=qmul ((NV.o.below hb')).any (((NV.o.below hb')).len LQqv.o (by decide:_<=900000)) (f6).k.any (((f6).k).len LQq101.o (by decide:_<=900000));rw[show qv*q101=q102 from Hq102.o.symm] at CT;refine CT.mono ?_;rintro e w'' ⟨za,rfl,ho,hb⟩;exact⟨_,rfl,⟨za,rfl,ho.mono hb'.size,ho.QY⟩,hb⟩
     rintro _ ⟨y7,rfl⟩
     conv=>arg 10;simp only[Act.put,zq0,zq1,zq2]
     refine FS.Jb rfl rfl rfl ?_ (fun w' hw'=>?_) ?_;rotate_left
     ·have hb':=hw'.world;skip;clear hw';go_simp
      try rfl
     conv=>arg 10;simp only[Act.put,zq0,zq1,zq2]
     refine FS.Jn (fun w103 hb hF=>?_);have N104:=qh (show DF w103 wr.heap.size y7 q102 from(FS.JE (val:=(fun x:FV=>x.v)) (Φ:=fun x w'=>DF w' wr.heap.size x q102) (fun _ _=>FV.inj) (hF.all 7)));clear hF;have NV:=qh (NV.o.below hb);have NS:=qh (NS.o.below hb);have H4:=qh (H4.o.below hb);have B8:=qh (B8.o.bl hb);have B3:=qh (B3.o.bl hb);have B4:=qh (B4.o.bl hb);have B6:=qh (B6.o.bl hb);have KG:=qk KG hb;clear hb;have HNW:=qh (show DF w103 wr.heap.size y7 (pw l t.m q 3) by rw[show pw l t.m q 3=pw l t.m q 2*l 2 ^ t.m.z from rfl,<- HQV.o,<- Hq101.o,<- Hq102.o];exact N104.o);have c80:=B8.o.ce 0;have c81:=B8.o.ce 1;have c82:=B8.o.ce 2;have c83:=B8.o.ce 3;have c84:=B8.o.ce 4;have c85:=B8.o.ce 5;have c86:=B8.o.ce 6;have c87:=B8.o.ce 7;have c8f:=B8.o.fz;have c8l:=B8.o.lt;go_wp2_with fail
     go_roundw
     case rel =>
      exact⟨3,y7,by simp,(Xf HNW.o B8.o (by decide) ..).k,ZC B8.o ..,Jp B3.o HN38.o ..,Jp B4.o HN48.o ..,Jp B6.o HN68.o ..,Xf NS.o B8.o (by decide) ..,Jv KG.o HA8.o ..⟩
     case measure=>simp[intOf]
    ·have ix3:∀ w,(Instr.index 69 (.agg #[.int .u16 t.m.x,.int .u16 t.m.y,.int .u16 t.m.z,.int .u16 t.m.t]) (.int .i64 3)).run Tryz.prog w=.ok (.int .u16 t.m.t) w:=fun _=>by kernel_rfl
     have HPK3:=qh (show t.m.t*kl+1<=900000 from PK 3);have HSM3:=qh (show t.m.t<=65535 from SM 3);have HPW3:=qh (show LQ (l 3 ^ t.m.t) 900000 from(JZ (HLK.o 3) _).up HPK3.o);have NV:=qh (show KF wr xv (pw l t.m q 3) from NV.o);obtain⟨qv,hqv⟩:∃ v,v=pw l t.m q 3:=⟨_,rfl⟩;rw[<- hqv] at NV;have LQqv:=qh (show LQ qv 900000 by rw[hqv];exact LW.o 3 (by omega));have HQV:=qh hqv;clear hqv;have H4:=qh (HW4.o.below KG.o);obtain⟨q101,hq101⟩:∃ z:Rat,z=l 3 ^ t.m.t:=⟨_,rfl⟩;have Hq101:=qh hq101;have LQq101:=qh (show LQ q101 900000 by rw[hq101];exact HPW3.o);clear hq101;obtain⟨q102,hq102⟩:∃ z:Rat,z=qv*q101:=⟨_,rfl⟩;have Hq102:=qh hq102;have LQq102:=qh (show LQ q102 1800000 by rw[hq102];exact LQ.mul (LQqv.o.up (by decide:_<=900000)) (LQq101.o.up (by decide:_<=900000)) (by decide));clear hq102
     go_upto_region 10 with (fail)
     refine FS.Jc 9 [] (FS.JM [(6,FS.Sp.made (fun x:FV=>x.v) (fun x w'=>DF w' wr.heap.size x q101) FV.blk),(7,FS.Sp.made (fun x:FV=>x.v) (fun x w'=>DF w' wr.heap.size x q102) FV.blk)])
      (fun w'=>Below wr.heap.size wr w') (by kernel_rfl) (by kernel_rfl) (by kernel_rfl)
      (FS.Jd (FS.Sp.Jg _ (fun _ _ _ h _ hk=>h.kept hk) (FS.JJ (by kernel_rfl))) (FS.Jd (FS.Sp.Jg _ (fun _ _ _ h _ hk=>h.kept hk) (FS.JJ (by kernel_rfl))) (FS.Jl))) (fun _ _ h hb=>h.trans (hb.mono h.size)) (zk.drew) ?_
     simp only[zu,zi,ze,zx,zy,zv,zw]
     iterate 6
      refine FS.Jb rfl rfl rfl ?_ (fun w' hw'=>?_) ?_;rotate_left
      ·have hb':=hw'.world;have hs0:=(B8.o.bl hb').ce 0;have hs1:=(B8.o.bl hb').ce 1;have hs2:=(B8.o.bl hb').ce 2;have hs3:=(B8.o.bl hb').ce 3;have hs4:=(B8.o.bl hb').ce 4;have hs5:=(B8.o.bl hb').ce 5;have hs6:=(B8.o.bl hb').ce 6;have hs7:=(B8.o.bl hb').ce 7;have hsf:=(B8.o.bl hb').fz;have hsl:=(B8.o.bl hb').lt;have hs12:=(B3.o.bl hb').ce 12;have hs13:=(B3.o.bl hb').ce 13;have hs14:=(B3.o.bl hb').ce 14;have hs15:=(B3.o.bl hb').ce 15;clear hw';go_simp
       try rfl
      conv=>arg 10;simp only[Act.put,zq0,zq1,zq2]
     refine FS.Jf rfl rfl rfl (fun w' hw'=>?_) ?_
     ·have hb':=hw'.world;refine FS.Jo (FS.PM (fun x:FV=>x.v) (fun x w'=>DF w' wr.heap.size x q101) FV.blk w'.heap.size) ?_ (fun _ _ h=>h.post (fun _ _=>FV.inj));go_simp;have CT:=ZB x3 (l 3) t.m.t kl w' (H4.o.k3.below hb') (HLK.o 3) HSM3.o HPK3.o;rw[show l 3 ^ t.m.t=q101 from Hq101.o.symm] at CT;refine CT.mono ?_;rintro e w'' ⟨za,rfl,ho,hb⟩;exact⟨_,rfl,⟨za,rfl,ho.mono hb'.size,ho.QY⟩,hb⟩
     rintro _ ⟨y6,rfl⟩
     conv=>arg 10;simp only[Act.put,zq0,zq1,zq2]
     refine FS.Jf rfl rfl rfl (fun w' hw'=>?_) ?_
     ·have hb':=hw'.world;refine FS.Jo (FS.PM (fun x:FV=>x.v) (fun x w'=>DF w' wr.heap.size x q102) FV.blk w'.heap.size) ?_ (fun _ _ h=>h.post (fun _ _=>FV.inj));go_simp;have f6:=FS.JE (val:=(fun x:FV=>x.v)) (Φ:=fun x w'=>DF w' wr.heap.size x q101) (fun _ _=>FV.inj) (hw'.fact 6 (by kernel_rfl));have CT:=qmul ((NV.o.below hb')).any (((NV.o.below hb')).len LQqv.o (by decide:_<=900000)) (f6).k.any (((f6).k).len LQq101.o (by decide:_<=900000));rw[show qv*q101=q102 from Hq102.o.symm] at CT;refine CT.mono ?_;rintro e w'' ⟨za,rfl,ho,hb⟩;exact⟨_,rfl,⟨za,rfl,ho.mono hb'.size,ho.QY⟩,hb⟩
     rintro _ ⟨y7,rfl⟩
     conv=>arg 10;simp only[Act.put,zq0,zq1,zq2]
     refine FS.Jb rfl rfl rfl ?_ (fun w' hw'=>?_) ?_;rotate_left
     ·have hb':=hw'.world;skip;clear hw';go_simp
      try rfl
     conv=>arg 10;simp only[Act.put,zq0,zq1,zq2]
     refine FS.Jn (fun w103 hb hF=>?_);have N104:=qh (show DF w103 wr.heap.size y7 q102 from(FS.JE (val:=(fun x:FV=>x.v)) (Φ:=fun x w'=>DF w' wr.heap.size x q102) (fun _ _=>FV.inj) (hF.all 7)));clear hF;have NV:=qh (NV.o.below hb);have NS:=qh (NS.o.below hb);have H4:=qh (H4.o.below hb);have B8:=qh (B8.o.bl hb);have B3:=qh (B3.o.bl hb);have B4:=qh (B4.o.bl hb);have B6:=qh (B6.o.bl hb);have KG:=qk KG hb;clear hb;have HNW:=qh (show DF w103 wr.heap.size y7 (pw l t.m q 4) by rw[show pw l t.m q 4=pw l t.m q 3*l 3 ^ t.m.t from rfl,<- HQV.o,<- Hq101.o,<- Hq102.o];exact N104.o);have c80:=B8.o.ce 0;have c81:=B8.o.ce 1;have c82:=B8.o.ce 2;have c83:=B8.o.ce 3;have c84:=B8.o.ce 4;have c85:=B8.o.ce 5;have c86:=B8.o.ce 6;have c87:=B8.o.ce 7;have c8f:=B8.o.fz;have c8l:=B8.o.lt;go_wp2_with fail
     go_roundw
     case rel =>
      exact⟨4,y7,by simp,(Xf HNW.o B8.o (by decide) ..).k,ZC B8.o ..,Jp B3.o HN38.o ..,Jp B4.o HN48.o ..,Jp B6.o HN68.o ..,Xf NS.o B8.o (by decide) ..,Jv KG.o HA8.o ..⟩
     case measure=>simp[intOf]
    ·have NV:=qh (show KF wr xv (q*atM l t.m) from by rw[<- KH];exact NV.o);have LV:=qh (show LQ (q*atM l t.m) 900000 from by rw[<- KH];exact LW.o 4 zj);have AD:=qh (qadd NS.o.k.any (NS.o.k.len HSQ.o zj) NV.o.any (NV.o.len LV.o zj));have c60:=B6.o.ce 0;have c61:=B6.o.ce 1;have c62:=B6.o.ce 2;have c63:=B6.o.ce 3;have c6f:=B6.o.fz;have c6l:=B6.o.lt;have c80:=B8.o.ce 0;have c81:=B8.o.ce 1;have c82:=B8.o.ce 2;have c83:=B8.o.ce 3;have c84:=B8.o.ce 4;have c85:=B8.o.ce 5;have c86:=B8.o.ce 6;have c87:=B8.o.ce 7;have c8f:=B8.o.fz;have c8l:=B8.o.lt;go_wp2_with fail
     with_reducible refine AD.o.mono ?_
     rintro _ w5 ⟨y5,rfl,hy,hb⟩;have B3:=qh (B3.o.bl hb);have B4:=qh (B4.o.bl hb);have B6:=qh (B6.o.bl hb)
     have NS:=qh (show DF w5 w.heap.size y5 (ev (P.take (j+1)) (atM l)) from by
      rw[List.take_add_one,HPJ.o,QP,show ev (some (t.m,q)).toList (atM l)=q*atM l t.m from Rat.add_zero _]
      exact hy.mono KG.o.size)
     have KG:=qk KG hb;clear hy hb AD c60 c61 c62 c63 c6f c6l c80 c81 c82 c83 c84 c85 c86 c87 c8f c8l;have c60:=B6.o.ce 0;have c61:=B6.o.ce 1;have c62:=B6.o.ce 2;have c63:=B6.o.ce 3;have c6f:=B6.o.fz;have c6l:=B6.o.lt;go_wp2_with fail
     go_roundw
     case rel =>
      exact⟨j+1,y5,by have:=HJN.o;omega,rfl,ZQ NS.o B6.o (by decide) ..,Jp B3.o HN36.o ..,Jp B4.o HN46.o ..,JP B6.o ..,Jv KG.o HA6.o ..⟩
     case measure=>simp[intOf];have:=HJN.o;omega
  ·have hge:¬((j:Int)<(xn:Int)):=by omega
   have HJE:=qh (show j=xn by have:=HJ.o;omega);clear hjn;have c60:=B6.o.ce 0;have c61:=B6.o.ce 1;have c62:=B6.o.ce 2;have c63:=B6.o.ce 3;have c6f:=B6.o.fz;have c6l:=B6.o.lt;have c40:=B4.o.ce 0;have c41:=B4.o.ce 1;have c42:=B4.o.ce 2;have c43:=B4.o.ce 3;have c4f:=B4.o.fz;have c4l:=B4.o.lt
   have HR:=qh (show DF (Zl wr A4 (.bool xs.t.s) (.slice xs.t.a xs.t.n xs.t.c) (.bool xs.l.s) (.slice xs.l.a xs.l.n xs.l.c)) w.heap.size xs (ev P (atM l)) from by
    have h:=ZQ NS.o B4.o (by decide) (.bool xs.t.s) (.slice xs.t.a xs.t.n xs.t.c) (.bool xs.l.s) (.slice xs.l.a xs.l.n xs.l.c)
    rwa [List.take_of_length_le (by rw[HJE.o,HXL.o];exact zj)] at h)
   go_wp2_with fail
   exact bodyPost_ret (Qk rfl _ _ _ _ _ _ _ rfl (JP B4.o ..) Tryz.underlying28 rfl (by kernel_rfl)) rfl ⟨xs,rfl,HR.o,Jv KG.o HA4.o ..⟩
end Pol
end Go.Proofs.YtgkkbkoiaccmfaaGreatDoor
