/-
  The walks of SamePoly, SameTerm of sums that are the same.
-/
import Derived.Test.YthacfgmdihcffaaGreatDoorPzRM
import Derived.Shelf.Spec.SlicesGrow
set_option linter.unusedSimpArgs false
set_option linter.unusedVariables false
set_option maxHeartbeats 16000000
set_option maxRecDepth 100000
namespace Go.Proofs.YthacfgmdihcffaaGreatDoor
namespace Pol
open Go.RowKit Go.Sort Limb
def Ok1 (L:List TO) (i:Nat):Prop:=∃ e q,L[i]?=some e/\e.2=some q/\q≠0/\(0<i->∃ d,L[i-1]?=some d/\e.1.m.lt d.1.m)
theorem q_num {q:Rat}:cmpZ q.num 0=0↔q=0:=by
 rw[<- Rat.num_eq_zero];unfold cmpZ;constructor
 ·intro h;split at h
  ·exact absurd h (by decide)
  ·split at h
   ·exact absurd h (by decide)
   ·omega
 ·intro h;rw[h];rfl
theorem check_raw (x:PV) (L:List TO) (k0:Nat) (w:World) (h:RawP w x L) (hn:x.n<=1000000000) (hk:k0<=L.length) (hok:∀ i,i<k0->Ok1 L i) (hbad:k0<L.length->¬Ok1 L k0) :
  Calls Tryz.prog 83 #[x.v] w fun e w'=>e=.returned (.bool (decide (k0=L.length)))/\Below w.heap.size w w':=by
 obtain⟨xa,xn,xc⟩:=x;have HLN:=qh (show L.length=xn from h.2.1);have HN:=qh (show xn<=1000000000 from hn);have HR:=qh h;have HK0:=qh hk;have HOK:=qh hok;have HBAD:=qh hbad;have KG:=qh (Below.refl w.heap.size w);obtain⟨bv,hbv⟩:∃ b,b=decide (k0=L.length):=⟨_,rfl⟩;have HBV:=qh hbv;rw[<- hbv];clear h hk hok hbad hn hbv;change Calls Tryz.prog 83 #[.slice xa xn xc] w _;go_enter Tryz.func83,Tryz.ntmps83;go_wp2_with fail
 go_loopw [7] (fun i wr=>∃ k:Nat,k<=k0/\i=.int .i64 k/\Below w.heap.size w wr) (fun i _=>xn-(intOf i).toNat)
 case atStart=>exact⟨0,Nat.zero_le _,rfl,KG.o⟩
 case round =>
  obtain⟨k,hkk,rfl,hb0⟩:=hrel;have KG:=qh hb0;have HKK0:=qh hkk;clear hb0 hkk;by_cases hkl:k<xn
  ·have HKL:=qh hkl;obtain⟨pb,po,rfl,hpb,hcs⟩:=(HR.o.below KG.o).1.off (i:=k) (by rw[List.length_map,HLN.o];exact hkl);obtain⟨e,he⟩:∃ e,L[k]?=some e:=⟨_,List.getElem?_eq_getElem (by rw[HLN.o];exact hkl)⟩;obtain⟨t,o⟩:=e;obtain⟨c0,c1,c2,c3,c4,c5,c6,c7⟩:=RT.eight hcs (i:=k) (t:=t) (by rw[List.getElem?_map,he];rfl);have HE:=qh he;have HTO:=qh ((HR.o.below KG.o).2.2.2.1 _ (List.mem_of_getElem? he));have HLF:=qh (HR.o.2.2.2.2.2 _ (List.mem_of_getElem? he));have HCS:=qh hcs;have HPB0:=qh hpb;obtain⟨kI,hkI⟩:∃ kI:Int,kI=(k:Int):=⟨_,rfl⟩;clear hcs he hpb
   go_upto_region 4 with (fail)
   obtain⟨V,hV⟩:∃ V,V=wr.alloc (.cells #[.bool t.c.t.s,.slice t.c.t.a t.c.t.n t.c.t.c,.bool t.c.l.s,.slice t.c.l.a t.c.l.n t.c.l.c,.int .u16 t.m.x,.int .u16 t.m.y,.int .u16 t.m.z,.int .u16 t.m.t] 37):=⟨_,rfl⟩
   have hbV:Below wr.heap.size wr V:=by rw[hV];exact zk.alloc zj _
   have B4:=qh (show Bxs V wr.heap.size 37 [.bool t.c.t.s,.slice t.c.t.a t.c.t.n t.c.t.c,.bool t.c.l.s,.slice t.c.l.a t.c.l.n t.c.l.c,.int .u16 t.m.x,.int .u16 t.m.y,.int .u16 t.m.z,.int .u16 t.m.t] by rw[hV];exact Bxs.new wr 37 [.bool t.c.t.s,.slice t.c.t.a t.c.t.n t.c.t.c,.bool t.c.l.s,.slice t.c.l.a t.c.l.n t.c.l.c,.int .u16 t.m.x,.int .u16 t.m.y,.int .u16 t.m.z,.int .u16 t.m.t]);obtain⟨A4,hA4⟩:∃ A,A=wr.heap.size:=⟨_,rfl⟩;rw[<- hV,<- hA4];rw[<- hA4] at B4;rw[<- hkI];have KG:=qk KG hbV
   have HTO:=qh (show TO.ok V (t,o) from by
    have h:=HTO.o;unfold TO.ok at h ⊢
    cases o with
    | none=>exact BF.below h hbV
    | some q=>exact KF.below h hbV)
   have HPB:=qh (Nat.lt_of_lt_of_le HPB0.o hbV.size);have HCV:=qh (fun (i:Nat) (t:TV) (hi:(L.map Prod.fst)[i]?=some t) (j:Nat) (v:Value) (hj:t.cells[j]?=some v)=>(hbV.cell (p:=⟨pb,po+i*8+j,none⟩) HPB0.o).trans (HCS.o i t hi j v hj));have HKI:=qh hkI;clear hV hbV hA4 hkI c0 c1 c2 c3 c4 c5 c6 c7 HCS HPB0 hkl
   cases o with
   | none =>
    have NF:=qh (show BF V t.c from HTO.o)
    have HEND:=qh (show false=bv by
     rw[HBV.o];refine(zo fun hh=>?_).symm;obtain⟨e',q',h1,h2,-⟩:=HOK.o k (by rw[hh,HLN.o];exact HKL.o);rw[HE.o] at h1
     cases h1
     cases h2)
    clear HTO HCV
    go_upto_region 4 with (fail)
    refine FS.wp_region_fresh 25 [] (FS.spOf [(2,FS.Sp.know (.bool false))])
     (fun w'=>Below V.heap.size V w') (by kernel_rfl) (by kernel_rfl) (by kernel_rfl)
     (FS.spOf_cons (FS.Sp.know_keeps _ _) (FS.spOf_nil)) (fun _ _ h hb=>h.trans (hb.mono h.size)) (zk.drew) ?_
    simp only[zu,zi,ze,zx,zy,zv,zw]
    iterate 2
     refine FS.wpF_reads rfl rfl rfl ?_ (fun w' hw'=>?_) ?_;rotate_left
     ·have hb':=hw'.world;have hs0:=(B4.o.bl hb').ce 0;have hs1:=(B4.o.bl hb').ce 1;have hs2:=(B4.o.bl hb').ce 2;have hs3:=(B4.o.bl hb').ce 3;have hs4:=(B4.o.bl hb').ce 4;have hs5:=(B4.o.bl hb').ce 5;have hs6:=(B4.o.bl hb').ce 6;have hs7:=(B4.o.bl hb').ce 7;have hsf:=(B4.o.bl hb').fz;have hsl:=(B4.o.bl hb').lt;clear hw';go_simp
      try rfl
     conv=>arg 10;simp only[Act.put,zq0,zq1,zq2]
    refine FS.wpF_spec rfl rfl rfl (fun w' hw'=>?_) ?_
    ·have hb':=hw'.world;refine FS.gives_of (FS.PK (.bool false)) ?_ (fun _ _ h=>h.post);go_simp;have CT:=qcheckB (NF.o.below hb') HLF.o;refine CT.mono ?_;rintro e w'' ⟨rfl,hb⟩;exact⟨_,rfl,rfl,hb⟩
    rintro _ rfl
    conv=>arg 10;simp only[Act.put,zq0,zq1,zq2]
    iterate 2
     refine FS.wpF_reads rfl rfl rfl ?_ (fun w' hw'=>?_) ?_;rotate_left
     ·have hb':=hw'.world;skip;clear hw';go_simp
      try rfl
     conv=>arg 10;simp only[Act.put,zq0,zq1,zq2]
    iterate 4
     refine FS.wpF_skip (by rfl) rfl ?_
     conv=>arg 10;simp only[Act.put,zq0,zq1,zq2]
    iterate 2
     refine FS.wpF_reads rfl rfl rfl ?_ (fun w' hw'=>?_) ?_;rotate_left
     ·have hb':=hw'.world;skip;clear hw';go_simp
      try rfl
     conv=>arg 10;simp only[Act.put,zq0,zq1,zq2]
    iterate 14
     refine FS.wpF_skip (by rfl) rfl ?_
     conv=>arg 10;simp only[Act.put,zq0,zq1,zq2]
    refine FS.wpF_nil (fun w101 hb hF=>?_);clear hF;have NF:=qh (NF.o.below hb);have B4:=qh (B4.o.bl hb);have KG:=qk KG hb;clear hb;go_wp2_with fail
    go_ret
    exact⟨by rw[HEND.o] <;> rfl,KG.o⟩
   | some q =>
    have NF:=qh (show KF V t.c q from HTO.o);have LQq:=qh (show LQ q 900000 from⟨by have h1:t.c.t.n<=900000:=HLF.o.1;have h2:=NF.o.t.n;omega,by have h1:t.c.l.n<=900000:=HLF.o.2;have h2:=NF.o.l.n;omega⟩);by_cases hq:q=0
    ·have HSG:=qh (q_num.2 hq)
     have HEND:=qh (show false=bv by
      rw[HBV.o];refine(zo fun hh=>?_).symm;obtain⟨e',q',h1,h2,h3,-⟩:=HOK.o k (by rw[hh,HLN.o];exact HKL.o);rw[HE.o] at h1
      cases h1
      cases h2
      exact h3 hq)
     clear HTO HCV hq
     go_upto_region 4 with (fail)
     refine FS.wp_region_fresh 25 [] (FS.spOf [(2,FS.Sp.know (.bool true)),(7,FS.Sp.know (.int .i64 0))])
      (fun w'=>Below V.heap.size V w') (by kernel_rfl) (by kernel_rfl) (by kernel_rfl)
      (FS.spOf_cons (FS.Sp.know_keeps _ _) (FS.spOf_cons (FS.Sp.know_keeps _ _) (FS.spOf_nil))) (fun _ _ h hb=>h.trans (hb.mono h.size)) (zk.drew) ?_
     simp only[zu,zi,ze,zx,zy,zv,zw]
     iterate 2
      refine FS.wpF_reads rfl rfl rfl ?_ (fun w' hw'=>?_) ?_;rotate_left
      ·have hb':=hw'.world;have hs0:=(B4.o.bl hb').ce 0;have hs1:=(B4.o.bl hb').ce 1;have hs2:=(B4.o.bl hb').ce 2;have hs3:=(B4.o.bl hb').ce 3;have hs4:=(B4.o.bl hb').ce 4;have hs5:=(B4.o.bl hb').ce 5;have hs6:=(B4.o.bl hb').ce 6;have hs7:=(B4.o.bl hb').ce 7;have hsf:=(B4.o.bl hb').fz;have hsl:=(B4.o.bl hb').lt;clear hw';go_simp
       try rfl
      conv=>arg 10;simp only[Act.put,zq0,zq1,zq2]
     refine FS.wpF_spec rfl rfl rfl (fun w' hw'=>?_) ?_
     ·have hb':=hw'.world;refine FS.gives_of (FS.PK (.bool true)) ?_ (fun _ _ h=>h.post);go_simp;have CT:=qcheck (NF.o.below hb') (((NF.o.below hb')).len LQq.o (by decide:_<=900000));refine CT.mono ?_;rintro e w'' ⟨rfl,hb⟩;exact⟨_,rfl,rfl,hb⟩
     rintro _ rfl
     conv=>arg 10;simp only[Act.put,zq0,zq1,zq2]
     iterate 2
      refine FS.wpF_reads rfl rfl rfl ?_ (fun w' hw'=>?_) ?_;rotate_left
      ·have hb':=hw'.world;skip;clear hw';go_simp
       try rfl
      conv=>arg 10;simp only[Act.put,zq0,zq1,zq2]
     iterate 2
      refine FS.wpF_readsG (by rfl) rfl rfl ?_ (fun w' hw'=>?_) ?_;rotate_left
      ·have hb':=hw'.world;have hs0:=(B4.o.bl hb').ce 0;have hs1:=(B4.o.bl hb').ce 1;have hs2:=(B4.o.bl hb').ce 2;have hs3:=(B4.o.bl hb').ce 3;have hs4:=(B4.o.bl hb').ce 4;have hs5:=(B4.o.bl hb').ce 5;have hs6:=(B4.o.bl hb').ce 6;have hs7:=(B4.o.bl hb').ce 7;have hsf:=(B4.o.bl hb').fz;have hsl:=(B4.o.bl hb').lt;clear hw';go_simp
       try rfl
      conv=>arg 10;simp only[Act.put,zq0,zq1,zq2]
     refine FS.wpF_gspec (by rfl) rfl rfl (fun w' hw'=>?_) ?_
     ·have hb':=hw'.world;refine FS.gives_of (FS.PK (.int .i64 0)) ?_ (fun _ _ h=>h.post);go_simp;have CT:=qsign ((NF.o.below hb')).any (((NF.o.below hb')).len LQq.o (by decide:_<=900000));rw[show cmpZ q.num 0=0 from HSG.o] at CT;refine CT.mono ?_;rintro e w'' ⟨rfl,hb⟩;exact⟨_,rfl,rfl,hb⟩
     rintro _ rfl
     conv=>arg 10;simp only[Act.put,zq0,zq1,zq2]
     refine FS.wpF_readsG (by rfl) rfl rfl ?_ (fun w' hw'=>?_) ?_;rotate_left
     ·have hb':=hw'.world;skip;clear hw';go_simp
      try rfl
     conv=>arg 10;simp only[Act.put,zq0,zq1,zq2]
     iterate 2
      refine FS.wpF_reads rfl rfl rfl ?_ (fun w' hw'=>?_) ?_;rotate_left
      ·have hb':=hw'.world;skip;clear hw';go_simp
       try rfl
      conv=>arg 10;simp only[Act.put,zq0,zq1,zq2]
     iterate 14
      refine FS.wpF_skip (by rfl) rfl ?_
      conv=>arg 10;simp only[Act.put,zq0,zq1,zq2]
     refine FS.wpF_nil (fun w102 hb hF=>?_);clear hF;have NF:=qh (NF.o.below hb);have B4:=qh (B4.o.bl hb);have KG:=qk KG hb;clear hb;go_wp2_with fail
     go_ret;exact⟨by rw[HEND.o] <;> rfl,KG.o⟩
    ·obtain⟨sg,hsg⟩:∃ c,c=cmpZ q.num 0:=⟨_,rfl⟩;have HSG:=qh hsg.symm
     have gsg:(sg==0)=false:=by
      rw[hsg]
      simpa using fun h=>hq (q_num.1 h)
     have HQ:=qh hq;clear hsg hq HTO
     rcases Nat.eq_zero_or_pos k with h0 | h0
     ·have HKK:=qh (show k<k0 from Nat.lt_of_le_of_ne HKK0.o fun hh=>HBAD.o (by rw[<- hh,HLN.o];exact HKL.o) (by rw[<- hh];exact⟨_,q,HE.o,rfl,HQ.o,fun h=>by omega⟩));have gk:decide (0<kI)=false:=zo (by have:=HKI.o;omega)
      have gk2:¬(0<kI):=by have:=HKI.o;omega
      clear h0 HCV
      go_upto_region 4 with (fail)
      refine FS.wp_region_fresh 25 [] (FS.spOf [(2,FS.Sp.know (.bool true)),(7,FS.Sp.know (.int .i64 sg))])
       (fun w'=>Below V.heap.size V w') (by kernel_rfl) (by kernel_rfl) (by kernel_rfl)
       (FS.spOf_cons (FS.Sp.know_keeps _ _) (FS.spOf_cons (FS.Sp.know_keeps _ _) (FS.spOf_nil))) (fun _ _ h hb=>h.trans (hb.mono h.size)) (zk.drew) ?_
      simp only[zu,zi,ze,zx,zy,zv,zw]
      iterate 2
       refine FS.wpF_reads rfl rfl rfl ?_ (fun w' hw'=>?_) ?_;rotate_left
       ·have hb':=hw'.world;have hs0:=(B4.o.bl hb').ce 0;have hs1:=(B4.o.bl hb').ce 1;have hs2:=(B4.o.bl hb').ce 2;have hs3:=(B4.o.bl hb').ce 3;have hs4:=(B4.o.bl hb').ce 4;have hs5:=(B4.o.bl hb').ce 5;have hs6:=(B4.o.bl hb').ce 6;have hs7:=(B4.o.bl hb').ce 7;have hsf:=(B4.o.bl hb').fz;have hsl:=(B4.o.bl hb').lt;clear hw';go_simp
        try rfl
       conv=>arg 10;simp only[Act.put,zq0,zq1,zq2]
      refine FS.wpF_spec rfl rfl rfl (fun w' hw'=>?_) ?_
      ·have hb':=hw'.world;refine FS.gives_of (FS.PK (.bool true)) ?_ (fun _ _ h=>h.post);go_simp;have CT:=qcheck (NF.o.below hb') (((NF.o.below hb')).len LQq.o (by decide:_<=900000));refine CT.mono ?_;rintro e w'' ⟨rfl,hb⟩;exact⟨_,rfl,rfl,hb⟩
      rintro _ rfl
      conv=>arg 10;simp only[Act.put,zq0,zq1,zq2]
      iterate 2
       refine FS.wpF_reads rfl rfl rfl ?_ (fun w' hw'=>?_) ?_;rotate_left
       ·have hb':=hw'.world;skip;clear hw';go_simp
        try rfl
       conv=>arg 10;simp only[Act.put,zq0,zq1,zq2]
      iterate 2
       refine FS.wpF_readsG (by rfl) rfl rfl ?_ (fun w' hw'=>?_) ?_;rotate_left
       ·have hb':=hw'.world;have hs0:=(B4.o.bl hb').ce 0;have hs1:=(B4.o.bl hb').ce 1;have hs2:=(B4.o.bl hb').ce 2;have hs3:=(B4.o.bl hb').ce 3;have hs4:=(B4.o.bl hb').ce 4;have hs5:=(B4.o.bl hb').ce 5;have hs6:=(B4.o.bl hb').ce 6;have hs7:=(B4.o.bl hb').ce 7;have hsf:=(B4.o.bl hb').fz;have hsl:=(B4.o.bl hb').lt;clear hw';go_simp
        try rfl
       conv=>arg 10;simp only[Act.put,zq0,zq1,zq2]
      refine FS.wpF_gspec (by rfl) rfl rfl (fun w' hw'=>?_) ?_
      ·have hb':=hw'.world;refine FS.gives_of (FS.PK (.int .i64 sg)) ?_ (fun _ _ h=>h.post);go_simp;have CT:=qsign ((NF.o.below hb')).any (((NF.o.below hb')).len LQq.o (by decide:_<=900000));rw[show cmpZ q.num 0=sg from HSG.o] at CT;refine CT.mono ?_;rintro e w'' ⟨rfl,hb⟩;exact⟨_,rfl,rfl,hb⟩
      rintro _ rfl
      conv=>arg 10;simp only[Act.put,zq0,zq1,zq2]
      refine FS.wpF_readsG (by rfl) rfl rfl ?_ (fun w' hw'=>?_) ?_;rotate_left
      ·have hb':=hw'.world;skip;clear hw';go_simp
       try rfl
      conv=>arg 10;simp only[Act.put,zq0,zq1,zq2]
      iterate 2
       refine FS.wpF_reads rfl rfl rfl ?_ (fun w' hw'=>?_) ?_;rotate_left
       ·have hb':=hw'.world;skip;clear hw';go_simp
        try rfl
       conv=>arg 10;simp only[Act.put,zq0,zq1,zq2]
      iterate 3
       refine FS.wpF_readsG (by rfl) rfl rfl ?_ (fun w' hw'=>?_) ?_;rotate_left
       ·have hb':=hw'.world;skip;clear hw';go_simp
        try rfl
       conv=>arg 10;simp only[Act.put,zq0,zq1,zq2]
      iterate 10
       refine FS.wpF_skip (by rfl) rfl ?_
       conv=>arg 10;simp only[Act.put,zq0,zq1,zq2]
      refine FS.wpF_readsG (by rfl) rfl rfl ?_ (fun w' hw'=>?_) ?_;rotate_left
      ·have hb':=hw'.world;skip;clear hw';go_simp
       try rfl
      conv=>arg 10;simp only[Act.put,zq0,zq1,zq2]
      refine FS.wpF_nil (fun w103 hb hF=>?_);clear hF;have NF:=qh (NF.o.below hb);have B4:=qh (B4.o.bl hb);have KG:=qk KG hb;clear hb;have ek1:IntKind.i64.wrap ((k:Int)+1)=(k:Int)+1:=IntWalk.i64_in _ (by have:=HKL.o;have:=HN.o;omega);have ek2:IntKind.i64.wrap (kI+1)=kI+1:=IntWalk.i64_in _ (by have:=HKI.o;have:=HKL.o;have:=HN.o;omega);go_wp2_with fail
      go_roundw
      case rel=>exact⟨k+1,by have:=HKK.o;omega,congrArg (Value.int .i64) (by have:=HKI.o;omega),KG.o⟩
      case measure=>have:=HKI.o;have:=HKL.o;simp[intOf];omega
     ·obtain⟨j,hj⟩:∃ j,k=j+1:=⟨k-1,by omega⟩;have gk:decide (0<kI)=true:=decide_eq_true (by have:=HKI.o;omega)
      have gk2:0<kI:=by have:=HKI.o;omega
      have ej:IntKind.i64.wrap (kI-1)=(j:Int):=by have:=HKI.o;have:=HKL.o;have:=HN.o;rw[IntWalk.i64_in _ (by omega)];omega
      have HJN:=qh (show j<xn by have:=HKL.o;omega);have HJK:=qh hj;obtain⟨d,hd⟩:∃ d,L[j]?=some d:=⟨_,List.getElem?_eq_getElem (by rw[HLN.o];exact HJN.o)⟩;obtain⟨tj,oj⟩:=d;have HD:=qh hd;have hj8:=RT.eight (w:=V) HCV.o (i:=j) (t:=tj) (by rw[List.getElem?_map,hd];rfl);have HJ4:=qh hj8.2.2.2.2.1;have HJ5:=qh hj8.2.2.2.2.2.1;have HJ6:=qh hj8.2.2.2.2.2.2.1;have HJ7:=qh hj8.2.2.2.2.2.2.2;obtain⟨fv,hfv⟩:∃ c,c=cmpMo t.m tj.m:=⟨_,rfl⟩;have HFV:=qh hfv.symm;clear hd hj8 HCV h0 hj;by_cases hlt:t.m.lt tj.m
      ·have gf:decide (0<=fv)=false:=zo (by have:=cmpMo_lt.2 hlt;omega)
       have gf2:¬(0<=fv):=by have:=cmpMo_lt.2 hlt;omega
       have HKK:=qh (show k<k0 from Nat.lt_of_le_of_ne HKK0.o fun hh=>HBAD.o (by rw[<- hh,HLN.o];exact HKL.o) (by rw[<- hh];exact⟨_,q,HE.o,rfl,HQ.o,fun _=>⟨_,by rw[HJK.o];exact HD.o,hlt⟩⟩));clear hfv hlt
       go_upto_region 4 with (fail)
       refine FS.wp_region_fresh 25 [] (FS.spOf [(2,FS.Sp.know (.bool true)),(7,FS.Sp.know (.int .i64 sg)),(22,FS.Sp.know (.int .i64 fv))])
        (fun w'=>Below V.heap.size V w') (by kernel_rfl) (by kernel_rfl) (by kernel_rfl)
        (FS.spOf_cons (FS.Sp.know_keeps _ _) (FS.spOf_cons (FS.Sp.know_keeps _ _) (FS.spOf_cons (FS.Sp.know_keeps _ _) (FS.spOf_nil)))) (fun _ _ h hb=>h.trans (hb.mono h.size)) (zk.drew) ?_
       simp only[zu,zi,ze,zx,zy,zv,zw]
       iterate 2
        refine FS.wpF_reads rfl rfl rfl ?_ (fun w' hw'=>?_) ?_;rotate_left
        ·have hb':=hw'.world;have hs0:=(B4.o.bl hb').ce 0;have hs1:=(B4.o.bl hb').ce 1;have hs2:=(B4.o.bl hb').ce 2;have hs3:=(B4.o.bl hb').ce 3;have hs4:=(B4.o.bl hb').ce 4;have hs5:=(B4.o.bl hb').ce 5;have hs6:=(B4.o.bl hb').ce 6;have hs7:=(B4.o.bl hb').ce 7;have hsf:=(B4.o.bl hb').fz;have hsl:=(B4.o.bl hb').lt;clear hw';go_simp
         try rfl
        conv=>arg 10;simp only[Act.put,zq0,zq1,zq2]
       refine FS.wpF_spec rfl rfl rfl (fun w' hw'=>?_) ?_
       ·have hb':=hw'.world;refine FS.gives_of (FS.PK (.bool true)) ?_ (fun _ _ h=>h.post);go_simp;have CT:=qcheck (NF.o.below hb') (((NF.o.below hb')).len LQq.o (by decide:_<=900000));refine CT.mono ?_;rintro e w'' ⟨rfl,hb⟩;exact⟨_,rfl,rfl,hb⟩
       rintro _ rfl
       conv=>arg 10;simp only[Act.put,zq0,zq1,zq2]
       iterate 2
        refine FS.wpF_reads rfl rfl rfl ?_ (fun w' hw'=>?_) ?_;rotate_left
        ·have hb':=hw'.world;skip;clear hw';go_simp
         try rfl
        conv=>arg 10;simp only[Act.put,zq0,zq1,zq2]
       iterate 2
        refine FS.wpF_readsG (by rfl) rfl rfl ?_ (fun w' hw'=>?_) ?_;rotate_left
        ·have hb':=hw'.world;have hs0:=(B4.o.bl hb').ce 0;have hs1:=(B4.o.bl hb').ce 1;have hs2:=(B4.o.bl hb').ce 2;have hs3:=(B4.o.bl hb').ce 3;have hs4:=(B4.o.bl hb').ce 4;have hs5:=(B4.o.bl hb').ce 5;have hs6:=(B4.o.bl hb').ce 6;have hs7:=(B4.o.bl hb').ce 7;have hsf:=(B4.o.bl hb').fz;have hsl:=(B4.o.bl hb').lt;clear hw';go_simp
         try rfl
        conv=>arg 10;simp only[Act.put,zq0,zq1,zq2]
       refine FS.wpF_gspec (by rfl) rfl rfl (fun w' hw'=>?_) ?_
       ·have hb':=hw'.world;refine FS.gives_of (FS.PK (.int .i64 sg)) ?_ (fun _ _ h=>h.post);go_simp;have CT:=qsign ((NF.o.below hb')).any (((NF.o.below hb')).len LQq.o (by decide:_<=900000));rw[show cmpZ q.num 0=sg from HSG.o] at CT;refine CT.mono ?_;rintro e w'' ⟨rfl,hb⟩;exact⟨_,rfl,rfl,hb⟩
       rintro _ rfl
       conv=>arg 10;simp only[Act.put,zq0,zq1,zq2]
       refine FS.wpF_readsG (by rfl) rfl rfl ?_ (fun w' hw'=>?_) ?_;rotate_left
       ·have hb':=hw'.world;skip;clear hw';go_simp
        try rfl
       conv=>arg 10;simp only[Act.put,zq0,zq1,zq2]
       iterate 2
        refine FS.wpF_reads rfl rfl rfl ?_ (fun w' hw'=>?_) ?_;rotate_left
        ·have hb':=hw'.world;skip;clear hw';go_simp
         try rfl
        conv=>arg 10;simp only[Act.put,zq0,zq1,zq2]
       iterate 11
        refine FS.wpF_readsG (by rfl) rfl rfl ?_ (fun w' hw'=>?_) ?_;rotate_left
        ·have hb':=hw'.world;have hj9:j<xn:=HJN.o;have hbx:Below V.heap.size V w':=hb';have e4:=(hbx.cell (p:=⟨pb,po+j*8+4,none⟩) HPB.o).trans HJ4.o;have e5:=(hbx.cell (p:=⟨pb,po+j*8+5,none⟩) HPB.o).trans HJ5.o;have e6:=(hbx.cell (p:=⟨pb,po+j*8+6,none⟩) HPB.o).trans HJ6.o;have e7:=(hbx.cell (p:=⟨pb,po+j*8+7,none⟩) HPB.o).trans HJ7.o;have hs0:=(B4.o.bl hb').ce 0;have hs1:=(B4.o.bl hb').ce 1;have hs2:=(B4.o.bl hb').ce 2;have hs3:=(B4.o.bl hb').ce 3;have hs4:=(B4.o.bl hb').ce 4;have hs5:=(B4.o.bl hb').ce 5;have hs6:=(B4.o.bl hb').ce 6;have hs7:=(B4.o.bl hb').ce 7;have hsf:=(B4.o.bl hb').fz;have hsl:=(B4.o.bl hb').lt;clear hw';go_simp
         try rfl
        conv=>arg 10;simp only[Act.put,zq0,zq1,zq2]
       refine FS.wpF_gspec (by rfl) rfl rfl (fun w' hw'=>?_) ?_
       ·have hb':=hw'.world;refine FS.gives_of (FS.PK (.int .i64 fv)) ?_ (fun _ _ h=>h.post);go_simp;have CT:=falls_any tj.m t.m w';rw[show cmpMo t.m tj.m=fv from HFV.o] at CT;refine CT.mono ?_;rintro e w'' ⟨rfl,hb⟩;exact⟨_,rfl,rfl,hb⟩
       rintro _ rfl
       conv=>arg 10;simp only[Act.put,zq0,zq1,zq2]
       iterate 2
        refine FS.wpF_readsG (by rfl) rfl rfl ?_ (fun w' hw'=>?_) ?_;rotate_left
        ·have hb':=hw'.world;skip;clear hw';go_simp
         try rfl
        conv=>arg 10;simp only[Act.put,zq0,zq1,zq2]
       refine FS.wpF_nil (fun w104 hb hF=>?_);clear hF;have NF:=qh (NF.o.below hb);have B4:=qh (B4.o.bl hb);have KG:=qk KG hb;clear hb;have ek1:IntKind.i64.wrap ((k:Int)+1)=(k:Int)+1:=IntWalk.i64_in _ (by have:=HKL.o;have:=HN.o;omega);have ek2:IntKind.i64.wrap (kI+1)=kI+1:=IntWalk.i64_in _ (by have:=HKI.o;have:=HKL.o;have:=HN.o;omega);go_wp2_with fail
       go_roundw
       case rel=>exact⟨k+1,by have:=HKK.o;omega,congrArg (Value.int .i64) (by have:=HKI.o;omega),KG.o⟩
       case measure=>have:=HKI.o;have:=HKL.o;simp[intOf];omega
      ·have h5:¬cmpMo t.m tj.m<0:=fun h=>hlt (cmpMo_lt.1 h)
       have gf:decide (0<=fv)=true:=decide_eq_true (by omega)
       have gf2:0<=fv:=by omega
       clear h5
       have HEND:=qh (show false=bv by
        rw[HBV.o];refine(zo fun hh=>?_).symm;obtain⟨e',q',h1,h2,h3,h4⟩:=HOK.o k (by rw[hh,HLN.o];exact HKL.o);obtain⟨d',h5,h6⟩:=h4 (by have:=HJK.o;omega);rw[HE.o] at h1
        cases h1
        rw[show k-1=j by have:=HJK.o;omega,HD.o] at h5
        cases h5
        exact hlt h6)
       clear hfv hlt
       go_upto_region 4 with (fail)
       refine FS.wp_region_fresh 25 [] (FS.spOf [(2,FS.Sp.know (.bool true)),(7,FS.Sp.know (.int .i64 sg)),(22,FS.Sp.know (.int .i64 fv))])
        (fun w'=>Below V.heap.size V w') (by kernel_rfl) (by kernel_rfl) (by kernel_rfl)
        (FS.spOf_cons (FS.Sp.know_keeps _ _) (FS.spOf_cons (FS.Sp.know_keeps _ _) (FS.spOf_cons (FS.Sp.know_keeps _ _) (FS.spOf_nil)))) (fun _ _ h hb=>h.trans (hb.mono h.size)) (zk.drew) ?_
       simp only[zu,zi,ze,zx,zy,zv,zw]
       iterate 2
        refine FS.wpF_reads rfl rfl rfl ?_ (fun w' hw'=>?_) ?_;rotate_left
        ·have hb':=hw'.world;have hs0:=(B4.o.bl hb').ce 0;have hs1:=(B4.o.bl hb').ce 1;have hs2:=(B4.o.bl hb').ce 2;have hs3:=(B4.o.bl hb').ce 3;have hs4:=(B4.o.bl hb').ce 4;have hs5:=(B4.o.bl hb').ce 5;have hs6:=(B4.o.bl hb').ce 6;have hs7:=(B4.o.bl hb').ce 7;have hsf:=(B4.o.bl hb').fz;have hsl:=(B4.o.bl hb').lt;clear hw';go_simp
         try rfl
        conv=>arg 10;simp only[Act.put,zq0,zq1,zq2]
       refine FS.wpF_spec rfl rfl rfl (fun w' hw'=>?_) ?_
       ·have hb':=hw'.world;refine FS.gives_of (FS.PK (.bool true)) ?_ (fun _ _ h=>h.post);go_simp;have CT:=qcheck (NF.o.below hb') (((NF.o.below hb')).len LQq.o (by decide:_<=900000));refine CT.mono ?_;rintro e w'' ⟨rfl,hb⟩;exact⟨_,rfl,rfl,hb⟩
       rintro _ rfl
       conv=>arg 10;simp only[Act.put,zq0,zq1,zq2]
       iterate 2
        refine FS.wpF_reads rfl rfl rfl ?_ (fun w' hw'=>?_) ?_;rotate_left
        ·have hb':=hw'.world;skip;clear hw';go_simp
         try rfl
        conv=>arg 10;simp only[Act.put,zq0,zq1,zq2]
       iterate 2
        refine FS.wpF_readsG (by rfl) rfl rfl ?_ (fun w' hw'=>?_) ?_;rotate_left
        ·have hb':=hw'.world;have hs0:=(B4.o.bl hb').ce 0;have hs1:=(B4.o.bl hb').ce 1;have hs2:=(B4.o.bl hb').ce 2;have hs3:=(B4.o.bl hb').ce 3;have hs4:=(B4.o.bl hb').ce 4;have hs5:=(B4.o.bl hb').ce 5;have hs6:=(B4.o.bl hb').ce 6;have hs7:=(B4.o.bl hb').ce 7;have hsf:=(B4.o.bl hb').fz;have hsl:=(B4.o.bl hb').lt;clear hw';go_simp
         try rfl
        conv=>arg 10;simp only[Act.put,zq0,zq1,zq2]
       refine FS.wpF_gspec (by rfl) rfl rfl (fun w' hw'=>?_) ?_
       ·have hb':=hw'.world;refine FS.gives_of (FS.PK (.int .i64 sg)) ?_ (fun _ _ h=>h.post);go_simp;have CT:=qsign ((NF.o.below hb')).any (((NF.o.below hb')).len LQq.o (by decide:_<=900000));rw[show cmpZ q.num 0=sg from HSG.o] at CT;refine CT.mono ?_;rintro e w'' ⟨rfl,hb⟩;exact⟨_,rfl,rfl,hb⟩
       rintro _ rfl
       conv=>arg 10;simp only[Act.put,zq0,zq1,zq2]
       refine FS.wpF_readsG (by rfl) rfl rfl ?_ (fun w' hw'=>?_) ?_;rotate_left
       ·have hb':=hw'.world;skip;clear hw';go_simp
        try rfl
       conv=>arg 10;simp only[Act.put,zq0,zq1,zq2]
       iterate 2
        refine FS.wpF_reads rfl rfl rfl ?_ (fun w' hw'=>?_) ?_;rotate_left
        ·have hb':=hw'.world;skip;clear hw';go_simp
         try rfl
        conv=>arg 10;simp only[Act.put,zq0,zq1,zq2]
       iterate 11
        refine FS.wpF_readsG (by rfl) rfl rfl ?_ (fun w' hw'=>?_) ?_;rotate_left
        ·have hb':=hw'.world;have hj9:j<xn:=HJN.o;have hbx:Below V.heap.size V w':=hb';have e4:=(hbx.cell (p:=⟨pb,po+j*8+4,none⟩) HPB.o).trans HJ4.o;have e5:=(hbx.cell (p:=⟨pb,po+j*8+5,none⟩) HPB.o).trans HJ5.o;have e6:=(hbx.cell (p:=⟨pb,po+j*8+6,none⟩) HPB.o).trans HJ6.o;have e7:=(hbx.cell (p:=⟨pb,po+j*8+7,none⟩) HPB.o).trans HJ7.o;have hs0:=(B4.o.bl hb').ce 0;have hs1:=(B4.o.bl hb').ce 1;have hs2:=(B4.o.bl hb').ce 2;have hs3:=(B4.o.bl hb').ce 3;have hs4:=(B4.o.bl hb').ce 4;have hs5:=(B4.o.bl hb').ce 5;have hs6:=(B4.o.bl hb').ce 6;have hs7:=(B4.o.bl hb').ce 7;have hsf:=(B4.o.bl hb').fz;have hsl:=(B4.o.bl hb').lt;clear hw';go_simp
         try rfl
        conv=>arg 10;simp only[Act.put,zq0,zq1,zq2]
       refine FS.wpF_gspec (by rfl) rfl rfl (fun w' hw'=>?_) ?_
       ·have hb':=hw'.world;refine FS.gives_of (FS.PK (.int .i64 fv)) ?_ (fun _ _ h=>h.post);go_simp;have CT:=falls_any tj.m t.m w';rw[show cmpMo t.m tj.m=fv from HFV.o] at CT;refine CT.mono ?_;rintro e w'' ⟨rfl,hb⟩;exact⟨_,rfl,rfl,hb⟩
       rintro _ rfl
       conv=>arg 10;simp only[Act.put,zq0,zq1,zq2]
       iterate 2
        refine FS.wpF_readsG (by rfl) rfl rfl ?_ (fun w' hw'=>?_) ?_;rotate_left
        ·have hb':=hw'.world;skip;clear hw';go_simp
         try rfl
        conv=>arg 10;simp only[Act.put,zq0,zq1,zq2]
       refine FS.wpF_nil (fun w105 hb hF=>?_);clear hF;have NF:=qh (NF.o.below hb);have B4:=qh (B4.o.bl hb);have KG:=qk KG hb;clear hb;go_wp2_with fail
       go_ret;exact⟨by rw[HEND.o] <;> rfl,KG.o⟩
  ·have HEND:=qh (show true=bv by
    rw[HBV.o]
    exact(decide_eq_true (by have:=HKK0.o;have:=HK0.o;have:=HLN.o;omega)).symm)
   have hge:¬((k:Int)<(xn:Int)):=by omega
   clear hkl;go_wp2_with fail
   go_ret;exact⟨by rw[HEND.o] <;> rfl,KG.o⟩
theorem vals_iff:∀ {L:List TO} {P:List Tm},vals L=some P↔P.length=L.length/\∀ (i:Nat) (e:TO),L[i]?=some e->∃ q,e.2=some q/\P[i]?=some (e.1.m,q)
 | [],P=>by
  unfold vals;constructor
  ·intro h;obtain rfl:[]=P:=Option.some.inj h;exact⟨rfl,fun i e h=>by simp at h⟩
  ·rintro⟨h,-⟩
   rw[List.length_eq_zero_iff.1 h]
 | (t,o) :: r,P=>by
  unfold vals;constructor
  ·intro h
   cases o with
   | none=>simp at h
   | some q =>
    cases hr:vals r with
    | none=>simp[hr] at h
    | some l =>
     simp only[hr,Option.some.injEq] at h;subst h;obtain⟨h1,h2⟩:=(vals_iff (L:=r)).1 hr;refine⟨by rw[List.length_cons,List.length_cons,h1],fun i e he=>?_⟩
     cases i with
     | zero =>
      obtain rfl:(t,some q)=e:=by simpa using he
      exact⟨q,rfl,rfl⟩
     | succ i=>exact h2 i e (by simpa using he)
  ·rintro⟨h1,h2⟩;obtain⟨q,hq,hP⟩:=h2 0 (t,o) rfl;have hq:o=some q:=hq;subst hq
   obtain⟨p,l,rfl⟩:∃ p l,P=p :: l:=by
    cases P with
    | nil=>simp at hP
    | cons p l=>exact⟨p,l,rfl⟩
   obtain rfl:p=(t.m,q):=by simpa using hP
   have hr:vals r=some l:=(vals_iff (L:=r)).2 ⟨by simpa using h1,fun i e he=>h2 (i+1) e (by simpa using he)⟩;simp[hr]
theorem okP_iff (L:List TO):okP L↔∀ i,i<L.length->Ok1 L i:=by
 constructor
 ·rintro⟨P,hv,hc⟩ i hi;obtain⟨h1,h2⟩:=vals_iff.1 hv;obtain⟨e,he⟩:∃ e,L[i]?=some e:=⟨_,List.getElem?_eq_getElem hi⟩;obtain⟨q,hq,hP⟩:=h2 i e he;refine⟨e,q,he,hq,hc.non _ (List.mem_of_getElem? hP),fun h0=>?_⟩;obtain⟨d,hd⟩:∃ d,L[i-1]?=some d:=⟨_,List.getElem?_eq_getElem (by omega)⟩;obtain⟨q',hq',hP'⟩:=h2 (i-1) d hd;refine⟨d,hd,?_⟩;obtain⟨a1,b1⟩:=List.getElem?_eq_some_iff.1 hP;obtain⟨a2,b2⟩:=List.getElem?_eq_some_iff.1 hP';have h3:=List.pairwise_iff_getElem.1 hc.falls (i-1) i a2 a1 (by omega);rw[b1,b2] at h3;exact h3
 ·intro h
  have hP:∃ P,vals L=some P:=by
   have:∀ M:List TO,(∀ e∈M,e.2≠none)->∃ P,vals M=some P:=by
    intro M
    induction M with
    | nil=>exact fun _=>⟨[],rfl⟩
    | cons e r ih =>
     intro hM
     obtain⟨l,hl⟩:=ih fun e he=>hM e (List.mem_cons_of_mem _ he)
     obtain⟨t,o⟩:=e
     cases o with
     | none=>exact absurd rfl (hM (t,none) (List.mem_cons_self ..))
     | some q=>exact⟨(t.m,q) :: l,by unfold vals;simp[hl]⟩
   refine this L fun e he=>?_
   obtain⟨i,hi,rfl⟩:=List.getElem_of_mem he;obtain⟨e',q,h1,h2,-⟩:=h i hi;rw[List.getElem?_eq_getElem hi] at h1
   cases h1
   rw[h2]
   exact fun h=>by cases h
  obtain⟨P,hv⟩:=hP;obtain⟨h1,h2⟩:=vals_iff.1 hv;refine⟨P,hv,⟨?_,fun t ht=>?_⟩⟩
  ·have step:∀ i,(hi:i+1<P.length)->P[i+1].1.lt (P[i]'(by omega)).1:=by
    intro i hi;obtain⟨e,q,he,hq,-,h4⟩:=h (i+1) (by omega);obtain⟨d,hd,hlt⟩:=h4 (by omega);obtain⟨q1,hq1,hP1⟩:=h2 (i+1) e he;obtain⟨q2,hq2,hP2⟩:=h2 (i+1-1) d hd;rw[Nat.add_sub_cancel] at hP2;rw[(List.getElem?_eq_some_iff.1 hP1).2,(List.getElem?_eq_some_iff.1 hP2).2];exact hlt
   rw[List.pairwise_iff_getElem];intro i j hi hj hij
   have go:∀ m,(hm:i+1+m<P.length)->(P[i+1+m]).1.lt (P[i]).1:=by
    intro m
    induction m with
    | zero=>exact fun hm=>step i hm
    | succ m ih=>exact fun hm=>Mo.lt_trans (step (i+1+m) hm) (ih (by omega))
   have h3:=go (j-i-1) (by omega)
   simpa only[show i+1+(j-i-1)=j by omega] using h3
  ·obtain⟨i,hi,rfl⟩:=List.getElem_of_mem ht;obtain⟨e,q,he,hq,hz,-⟩:=h i (by omega);obtain⟨q1,hq1,hP1⟩:=h2 i e he;rw[(List.getElem?_eq_some_iff.1 hP1).2];rw[hq1] at hq
   cases hq
   exact hz
theorem check_k {w:World} {x:PV} {P:List Tm} (h:KP w x P) (hq:∀ t∈P,LQ t.2 900000) (hn:x.n<=1000000000):Calls Tryz.prog 83 #[x.v] w fun e w'=>e=.returned (.bool true)/\Below w.heap.size w w':=by
 obtain⟨K,h1,h2,h3,h4⟩:=h.ex
 have hR:RawP w x (K.map fun e=>(e.1,some e.2)):=by
  refine⟨by rw[List.map_map];exact h1,by rw[List.length_map];exact h2,h.le,fun e he=>?_,fun e he=>?_,fun e he=>?_⟩
  ·obtain⟨f,hf,rfl⟩:=List.mem_map.1 he;exact h3 f hf
  ·obtain⟨f,hf,rfl⟩:=List.mem_map.1 he;exact h.small (tm f) (by rw[<- h4];exact List.mem_map_of_mem hf)
  ·obtain⟨f,hf,rfl⟩:=List.mem_map.1 he;exact(h3 f hf).len (hq (tm f) (by rw[<- h4];exact List.mem_map_of_mem hf)) zj
 have hok:okP (K.map fun e=>(e.1,some e.2)):=by
  refine⟨P,?_,h.canon⟩;rw[vals_iff];refine⟨by rw[<- h4,List.length_map,List.length_map],fun i e he=>?_⟩;rw[List.getElem?_map] at he
  cases hk:K[i]? with
  | none=>rw[hk] at he;cases he
  | some f =>
   rw[hk] at he
   obtain rfl:(f.1,some f.2)=e:=by simpa using he
   exact⟨f.2,rfl,by rw[<- h4,List.getElem?_map,hk];rfl⟩
 have g:=check_raw x _ (K.map fun e=>(e.1,some e.2)).length w hR hn zj ((okP_iff _).1 hok) (fun h=>absurd h (by omega));rwa [decide_eq_true rfl] at g
theorem check_b {w:World} {x:PV} (h:BP w x) (hn:x.n<=1000000000):Calls Tryz.prog 83 #[x.v] w fun e w'=>e=.returned (.bool false)/\Below w.heap.size w w':=by
 obtain⟨L,hR,hk⟩:=h;rw[okP_iff] at hk
 have first:∀ n,n<=L.length->(∀ i,i<n->Ok1 L i)\/∃ k0,k0<n/\(∀ i,i<k0->Ok1 L i)/\¬Ok1 L k0:=by
  intro n
  induction n with
  | zero=>exact fun _=>Or.inl fun i hi=>by omega
  | succ n ih =>
   intro hn
   rcases ih (by omega) with h1 | ⟨k0,h1,h2⟩
   ·by_cases h2:Ok1 L n
    ·exact Or.inl fun i hi=>(Nat.lt_or_eq_of_le (Nat.le_of_lt_succ hi)).elim (h1 i) (fun e=>e▸h2)
    ·exact Or.inr ⟨n,by omega,h1,h2⟩
   ·exact Or.inr ⟨k0,by omega,h2⟩
 rcases first L.length zj with h1 | ⟨k0,h1,h2,h3⟩
 ·exact absurd h1 hk
 ·have g:=check_raw x L k0 w hR hn (Nat.le_of_lt h1) h2 (fun _=>h3);rwa [zo (by omega)] at g
theorem of_k {w:World} {x:PV} {P:List Tm} (h:KP w x P) (hq:∀ t∈P,LQ t.2 900000) (hn:x.n<=1000000000):Calls Tryz.prog 30 #[x.v] w fun e w'=>e=.returned x.v/\Below w.heap.size w w':=by
 have C:=qh (check_k h hq hn);go_enter Tryz.func30,Tryz.ntmps30;go_wp2_with fail
 refine C.o.mono ?_;rintro e w1 ⟨rfl,hb⟩;have HB:=qh hb;clear hb C;go_wp2_with fail
 go_ret;exact⟨rfl,HB.o⟩
theorem of_b {w:World} {x:PV} (h:BP w x) (hn:x.n<=1000000000):Calls Tryz.prog 30 #[x.v] w fun e w'=>e=.returned (.slice none 0 0)/\Below w.heap.size w w':=by
 have C:=qh (check_b h hn);go_enter Tryz.func30,Tryz.ntmps30;go_wp2_with fail
 refine C.o.mono ?_;rintro e w1 ⟨rfl,hb⟩;have HB:=qh hb;clear hb C;go_wp2_with fail
 go_ret;exact⟨rfl,HB.o⟩
theorem at_cell (c0 c1 c2 c3:Value) (m:Mo) {i:Nat} (hi:i<4):[c0,c1,c2,c3,.int .u16 m.x,.int .u16 m.y,.int .u16 m.z,.int .u16 m.t][4+i]?=some (.int .u16 (m.at i)):=by
 match i,hi with
 | 0,_=>rfl
 | 1,_=>rfl
 | 2,_=>rfl
 | 3,_=>rfl
theorem put_cut {w:World} {b:Nat} {T:TypeId} {c0 c1 c2 c3:Value} {m:Mo} {i:Nat} (h:Bxs w b T [c0,c1,c2,c3,.int .u16 m.x,.int .u16 m.y,.int .u16 m.z,.int .u16 m.t]) (hi:i<4) :
  Bxs (w.setCell ⟨b,4+i,none⟩ (.int .u16 0)) b T [c0,c1,c2,c3,.int .u16 (m.cut i).x,.int .u16 (m.cut i).y,.int .u16 (m.cut i).z,.int .u16 (m.cut i).t]:=by
 match i,hi with
 | 0,_=>exact h.put 4 _
 | 1,_=>exact h.put 5 _
 | 2,_=>exact h.put 6 _
 | 3,_=>exact h.put 7 _
theorem at_small {m:Mo} (h:m.Small) (i:Nat):m.at i<=65535:=by
 obtain⟨h1,h2,h3,h4⟩:=h;unfold Mo.at;split
 ·exact h1
 ·split
  ·exact h2
  ·split
   ·exact h3
   ·exact h4
instance:Inhabited TV:=⟨⟨⟨⟨false,none,0,0⟩,⟨false,none,0,0⟩⟩,Mo.one⟩⟩
def cfT (e f:TE):Int:=cmpMo f.1.m e.1.m
theorem ltT (e f:TE):ltOf cfT e f=decide (f.1.m.lt e.1.m):=by
 unfold ltOf cfT;by_cases h:f.1.m.lt e.1.m
 ·rw[decide_eq_true h,decide_eq_true (cmpMo_lt.2 h)]
 ·rw[zo h,zo fun k=>h (cmpMo_lt.1 k)]
theorem swoT:SWO (ltOf cfT) where
 irrefl x:=by rw[ltT];exact zo (Mo.lt_irrefl _)
 trans x y z h1 h2:=by
  rw[ltT,decide_eq_true_eq] at *;exact Mo.lt_trans h2 h1
 ntrans x y z h1 h2:=by
  rw[ltT,decide_eq_false_iff_not] at *;intro h
  rcases Mo.lt_or y.1.m x.1.m with h3 | h3 | h3
  ·exact h1 h3
  ·rw[h3] at h2;exact h2 h
  ·exact h2 (Mo.lt_trans h h3)
def encT (e:TE):List Value:=e.1.cells
theorem sum1_lays (s t:TV) (w:World):Calls Tryz.prog 112 #[.agg (TV.cells s).toArray,.agg (TV.cells t).toArray] w fun e w'=>e=.returned (.int .i64 (cmpMo t.m s.m))/\Lays w w':=by
 have C:=qh (fun w'=>falls_lays s.m t.m w');show Calls Tryz.prog 112 #[.agg #[.bool s.c.t.s,.slice s.c.t.a s.c.t.n s.c.t.c,.bool s.c.l.s,.slice s.c.l.a s.c.l.n s.c.l.c,.int .u16 s.m.x,.int .u16 s.m.y,.int .u16 s.m.z,.int .u16 s.m.t],.agg #[.bool t.c.t.s,.slice t.c.t.a t.c.t.n t.c.t.c,.bool t.c.l.s,.slice t.c.l.a t.c.l.n t.c.l.c,.int .u16 t.m.x,.int .u16 t.m.y,.int .u16 t.m.z,.int .u16 t.m.t]] w _;go_enter Tryz.func112,Tryz.ntmps112;go_wp2_with fail
 with_reducible refine(C.o _).mono ?_
 rintro e w1 ⟨rfl,hb,hd⟩;have HB:=qh (show Below w.heap.size w w1 from(zk.alloc zj _ |>.alloc (by go_size) _).trans (hb.mono (by go_size)));have HD:=qh (show w.drawn<=w1.drawn from hd);clear hb hd C;go_wp2_with fail
 go_ret;exact⟨rfl,HB.o,HD.o⟩
theorem lays_sum1 (blk off size:Nat) (w:World):CmpLays Tryz.prog 112 #[] encT 8 cfT blk off size w :=
 fun m os dk _ x y=>(sum1_lays x.1 y.1 _).mono fun _ _ h=>⟨h.1,h.2.grow⟩
theorem flatK_list (d:Array TE):(flatK encT 8 d).toList=(d.toList.map Prod.fst).flatMap TV.cells:=by
 apply List.ext_getElem?;intro j
 have hl:((d.toList.map Prod.fst).flatMap TV.cells).length=d.size*8:=by rw[flat_len,List.length_map,Array.length_toList]
 by_cases hj:j<d.size*8
 ·have hi:j/8<d.size:=by omega
  have h1:=flat_get (d.toList.map Prod.fst) (j/8) (j%8) d[j/8]!.1 (by
   rw[List.getElem?_map,Array.getElem?_toList,Array.getElem?_eq_getElem hi,getElem!_pos d _ hi];rfl) (Nat.mod_lt _ (by omega))
  rw[show j/8*8+j%8=j by omega] at h1;rw[h1,Array.getElem?_toList];unfold flatK;rw[Array.getElem?_map,Array.getElem?_range,if_pos hj];show some (encT d[j/8]!)[j%8]! = _;have h8:j%8<(encT d[j/8]!).length:=Nat.mod_lt _ (by omega);rw[getElem!_pos (encT d[j/8]!) _ h8];exact(List.getElem?_eq_getElem h8).symm
 ·rw[List.getElem?_eq_none (by rw[Array.length_toList,size_flatK];omega),List.getElem?_eq_none (by rw[hl];omega)]
theorem OT.holds {w:World} {lo g cap:Nat} {d:List TE} (h:OT w lo (.slice (some ⟨g,0,none⟩) d.length cap) (d.map Prod.fst)) (hne:0<d.length):HoldsK encT 8 w g 0 d.toArray/\g<w.heap.size:=by
 rcases h.2 with ⟨hv,h0⟩ | ⟨g',cap',cur,hv,_,hg,hnc,_,hcs,htake⟩
 ·cases hv
 ·simp only[Value.slice.injEq,Option.some.injEq,Addr.mk.injEq,and_true,List.length_map,true_and] at hv;obtain⟨rfl,rfl⟩:=hv;refine⟨fun j hj=>?_,lt_of_block hg⟩
  have hj:j<d.length*8:=by rw[size_flatK] at hj;simpa using hj
  have e1:(flatK encT 8 d.toArray)[j]?=cur[j]?:=by
   have h1:=congrArg (fun l=>l[j]?) htake;rw[List.getElem?_take,List.length_map,if_pos hj,Array.getElem?_toList] at h1;rw[h1,<- Array.getElem?_toList,flatK_list]
  have hsz:j<(flatK encT 8 d.toArray).size:=by rw[size_flatK];simpa using hj
  refine⟨?_,?_⟩
  ·rw[cell_of_row _ _ _ _ _ _ hg,Nat.zero_add,<- e1,Array.getElem?_eq_getElem hsz,getElem!_pos (flatK encT 8 d.toArray) _ hsz];rfl
  ·simp only[World.frozen?,hg];simp
theorem SortedIn.pair {d:Array TE} (h:SortedIn (ltOf cfT) 0 d.size d):d.toList.Pairwise (fun e f=>¬e.1.m.lt f.1.m):=by
 rw[List.pairwise_iff_getElem];intro i j hi hj hij;rw[Array.length_toList] at hi hj;have h1:=h i j (Nat.zero_le _) hij hj;rw[ltT,decide_eq_false_iff_not,getElem!_pos d _ hi,getElem!_pos d _ hj] at h1;rw[Array.getElem_toList,Array.getElem_toList];exact h1
theorem sortWorld_row {w:World} {lo g cap n:Nat} {d:List TE} {d':Array TE} {os:Array Obj} (h:OT w lo (.slice (some ⟨g,0,none⟩) d.length cap) (d.map Prod.fst)) (hs:d'.size=d.length) :
  OT (sortWorldK encT 8 w g 0 n d' os) lo (.slice (some ⟨g,0,none⟩) d.length cap) (d'.toList.map Prod.fst)/\Only g w (sortWorldK encT 8 w g 0 n d' os):=by
 rcases h.2 with ⟨hv,h0⟩ | ⟨g',cap',cur,hv,hlo,hg,hnc,hcm,hcs,htake⟩
 ·cases hv
 ·simp only[Value.slice.injEq,Option.some.injEq,Addr.mk.injEq,and_true,List.length_map,true_and] at hv;obtain⟨rfl,rfl⟩:=hv;have hgl:=lt_of_block hg
  have hheap:∀ k,k<w.heap.size->(sortWorldK encT 8 w g 0 n d' os).heap[k]?=if k=g then some (.cells (putCells id 0 (flatK encT 8 d') cur) 37 (0,0)) else w.heap[k]?:=by
   intro k hk;show((w.heap.modify g _)++os)[k]?=_;rw[Array.getElem?_append_left (by rw[Array.size_modify];exact hk),Array.getElem?_modify];by_cases e:g=k
   ·subst e;rw[if_pos rfl,if_pos rfl,hg];rfl
   ·rw[if_neg e,if_neg (fun h=>e h.symm)]
  have hdl:(d'.toList.map Prod.fst).length=d.length:=by rw[List.length_map,Array.length_toList,hs]
  refine⟨⟨by rw[flat_len],.inr ⟨g,cap,putCells id 0 (flatK encT 8 d') cur,by rw[hdl],hlo,by rw[hheap g hgl,if_pos rfl],by rw[hdl];rw[List.length_map] at hnc;exact hnc,hcm,by unfold putCells;rw[Array.size_mapIdx];exact hcs,?_⟩⟩,rfl,rfl,rfl,?_,fun k hk hne=>by rw[hheap k hk,if_neg hne]⟩
  ·rw[<- flatK_list];apply List.ext_getElem?;intro j;rw[List.getElem?_take,hdl];by_cases hj:j<d.length*8
   ·have hc:j<cur.size:=by
     rw[hcs];rw[List.length_map] at hnc;have:=Nat.mul_le_mul_right 8 hnc;omega
    have hf:j<(flatK encT 8 d').size:=by rw[size_flatK,hs];exact hj
    rw[if_pos hj,Array.getElem?_toList,Array.getElem?_toList];unfold putCells;rw[Array.getElem?_mapIdx,Array.getElem?_eq_getElem hc,Option.map_some,if_pos ⟨Nat.zero_le _,by omega⟩,Nat.sub_zero,Array.getElem?_eq_getElem hf,getElem!_pos (flatK encT 8 d') _ hf];rfl
   ·rw[if_neg hj,List.getElem?_eq_none];rw[Array.length_toList,size_flatK,hs];omega
  ·show w.heap.size<=((w.heap.modify g _)++os).size;rw[Array.size_append,Array.size_modify];omega
theorem sort_any (lo g cap:Nat) (d:List TE) (w:World) (h:OT w lo (.slice (some ⟨g,0,none⟩) d.length cap) (d.map Prod.fst)) (hne:0<d.length) (hsz:d.length<4611686018427387904) :
  Calls Tryz.prog 111 #[.slice (some ⟨g,0,none⟩) d.length cap,.func (.func 112) #[] #[]] w fun e w'=>e=.returned (.tuple #[])/\∃ d':List TE,d'.Perm d/\d'.Pairwise (fun e f=>¬e.1.m.lt f.1.m) /\
   OT w' lo (.slice (some ⟨g,0,none⟩) d.length cap) (d'.map Prod.fst)/\Only g w w':=by
 have eg:∀ args w,(callFunc 112 args).run Tryz.prog w=.ok (.enter 112 args) w:=enters_of Tryz.func112 (by kernel_rfl) rfl;have hH:=OT.holds h hne;have hlim:Lib.bitLen d.length<4611686018427387904:=Nat.lt_of_le_of_lt (Lib.bitLen_le d.length 62 (by omega) (by omega)) (by omega)
 have hp:=AnyQ.pdqsortCmpFunc_all (P:=Tryz.prog) (ρ:=Tryz.sortT_ren) Tryz.sortT 8 Tryz.isAgg37 Tryz.sizeOf37 encT cfT 112 #[] swoT g 0 cap d.toArray w eg (lays_sum1 g 0 d.toArray.size w)
  ⟨fun _=>rfl,fun x v hv=>by
   simp only[encT,TV.cells,List.mem_cons,List.mem_nil_iff,or_false] at hv
   rcases hv with rfl | rfl | rfl | rfl | rfl | rfl | rfl | rfl <;> rfl,hH.1,hH.2⟩ (d.toArray.size+1) 0 d.toArray.size (Lib.bitLen d.length) d.toArray w (by omega) rfl (SWK.start hH.1) (Nat.zero_le _) zj (by rw[List.size_toArray];exact hsz) hlim (Or.inl rfl)
 rw[List.size_toArray] at hp;change Calls Tryz.prog 172 _ _ _ at hp;have hl:=Tryz.bits_Len (d.length:Int) w (by omega) (by omega);rw[Int.toNat_natCast] at hl;have hs:=pdq_sorts (ltOf cfT) swoT d.toArray 0 d.toArray.size (Lib.bitLen d.length) true true (Nat.zero_le _) zj (Or.inl rfl);rw[List.size_toArray] at hs;obtain⟨d',hd'⟩:∃ d',d'=pdq (ltOf cfT) d.toArray 0 d.length (Lib.bitLen d.length) true true:=⟨_,rfl⟩;rw[<- hd'] at hp hs
 have wr:IntKind.u64.wrap (d.length:Int)=d.length:=by simp[IntKind.wrap,IntKind.bits,IntKind.signed];omega
 have HS:=qh hs;have HO:=qh h;have HP:=qh hp;have HL:=qh hl;clear hs hH h hd' hp hl eg hlim hsz hne;go_enter Tryz.func111,Tryz.ntmps111;go_wp2_with fail
 refine HL.o.mono ?_;rintro e w' ⟨rfl,rfl⟩;go_wp2_with fail
 refine HP.o.mono ?_;rintro e w'' ⟨rfl,n,os,rfl⟩;go_wp2_with fail
 go_end0;have hsz:d'.size=d.length:=HS.o.1.1;obtain⟨h1,h2⟩:=sortWorld_row (n:=n) (os:=os) HO.o hsz;refine⟨rfl,d'.toList,?_,SortedIn.pair (by rw[hsz];exact HS.o.2),h1,h2⟩;have h3:=HS.o.1.2.2;rw[show d'.extract 0 d.length=d' by rw[<- hsz];simp,show d.toArray.extract 0 d.length=d.toArray by simp] at h3;exact h3
theorem sort_none (p:Option Addr) (cap:Nat) (fv:Value) (w:World) :
  Calls Tryz.prog 111 #[.slice p 0 cap,fv] w fun e w'=>e=.returned (.tuple #[])/\w'=w:=by
 have hp:=fun lim W=>AnyF.pdqsortCmpFunc_none (P:=Tryz.prog) (ρ:=Tryz.sortT_ren) Tryz.sortT p cap lim fv W
 change ∀ lim W,Calls Tryz.prog 172 _ _ _ at hp
 have hl:=fun W=>Tryz.bits_Len 0 W (by omega) (by omega)
 have HP:=qh hp;have HL:=qh hl;clear hp hl;go_enter Tryz.func111,Tryz.ntmps111;go_wp2_with fail
 refine(HL.o _).mono ?_;rintro e w' ⟨rfl,rfl⟩;go_wp2_with fail
 refine(HP.o _ _).mono ?_;rintro e w'' ⟨rfl,rfl⟩;go_wp2_with fail
 go_end0;exact⟨rfl,rfl⟩
def seenEv (f:Mo->Rat) (seen:Array Nat):List TE->Nat->Rat
 | [],_=>0
 | e :: r,i=>(if seen.contains i=true then e.2*f e.1.m else 0)+seenEv f seen r (i+1)
theorem seenEv_none (f:Mo->Rat):∀ (L:List TE) (i:Nat),seenEv f #[] L i=0
 | [],_=>rfl
 | e :: r,i=>by
  show(if (#[]:Array Nat).contains i=true then e.2*f e.1.m else 0)+seenEv f #[] r (i+1)=0;rw[seenEv_none f r,if_neg (by simp),Rat.zero_add]
theorem seenEv_low (f:Mo->Rat) (seen:Array Nat) (j:Nat):∀ (L:List TE) (i:Nat),j<i->seenEv f (seen.push j) L i=seenEv f seen L i
 | [],_,_=>rfl
 | e :: r,i,h=>by
  show(if (seen.push j).contains i=true then e.2*f e.1.m else 0)+seenEv f (seen.push j) r (i+1)=(if seen.contains i=true then e.2*f e.1.m else 0)+seenEv f seen r (i+1);rw[seenEv_low f seen j r (i+1) (by omega),contains_push,show(i==j)=false by simpa using (by omega:¬i=j),Bool.or_false]
theorem seenEv_push (f:Mo->Rat) (seen:Array Nat) {j:Nat} (hs:seen.contains j=false):∀ (L:List TE) (i:Nat) (e:TE),L[j-i]?=some e->i<=j->seenEv f (seen.push j) L i=seenEv f seen L i+e.2*f e.1.m
 | [],i,e,h,_=>by simp at h
 | a :: r,i,e,h,hij=>by
  show(if (seen.push j).contains i=true then a.2*f a.1.m else 0)+seenEv f (seen.push j) r (i+1)=((if seen.contains i=true then a.2*f a.1.m else 0)+seenEv f seen r (i+1))+e.2*f e.1.m;rw[contains_push];by_cases hj:i=j
  ·subst hj;rw[Nat.sub_self] at h
   obtain rfl:a=e:=by simpa using h
   rw[seenEv_low f seen i r (i+1) (by omega),hs,if_pos (by simp),if_neg (by simp)];grind
  ·rw[show(i==j)=false by simpa using hj,Bool.or_false,seenEv_push f seen hs r (i+1) e (by
    rw[show j-i=(j-(i+1))+1 by omega,List.getElem?_cons_succ] at h;exact h) (by omega)]
   grind
theorem seenEv_all (f:Mo->Rat) (seen:Array Nat):∀ (L:List TE) (i:Nat),(∀ k,i<=k->k<i+L.length->seen.contains k=true)->seenEv f seen L i=ev (L.map tm) f
 | [],_,_=>rfl
 | e :: r,i,h=>by
  show(if seen.contains i=true then e.2*f e.1.m else 0)+seenEv f seen r (i+1)=_;rw[List.map_cons,ev_cons,if_pos (h i zj (by rw[List.length_cons];omega)),seenEv_all f seen r (i+1) fun k h1 h2=>h k (by omega) (by rw[List.length_cons];omega)]
theorem ents_mem {L:List TE} {e:MapEntry} (h:e∈(ents L).toArray.toList):∃ i t,L[i]?=some t/\e=ent (t,i):=by
 obtain⟨i,hi⟩:=List.mem_iff_getElem?.1 h;rw[ents_get] at hi
 cases hL:L[i]? with
 | none=>rw[hL] at hi;cases hi
 | some t=>rw[hL] at hi;exact⟨i,t,hL,(Option.some.inj hi).symm⟩
theorem ents_in {L:List TE} {i:Nat} {t:TE} (h:L[i]?=some t):ent (t,i)∈(ents L).toArray.toList:=List.mem_iff_getElem?.2 ⟨i,by rw[ents_get,h];rfl⟩
theorem ents_born (L:List TE):((ents L).toArray.toList.map (·.born)).Nodup:=by
 show((ents L).map (·.born)).Nodup
 have e:(ents L).map (·.born)=List.range L.length:=by
  apply List.ext_getElem?;intro i;rw[List.getElem?_map,ents_get];by_cases h:i<L.length
  ·rw[List.getElem?_eq_getElem h,List.getElem?_range h];rfl
  ·rw[List.getElem?_eq_none (by omega),List.getElem?_eq_none (by rw[List.length_range];omega)];rfl
 rw[e];exact List.nodup_range
structure SumR (w:World) (b:Nat) (L K:List TE) (seen:Array Nat) (c0:Nat) (p:Value) (wr:World):Prop where
 row:OT wr w.heap.size p (K.map Prod.fst)
 it:wr.heap[w.heap.size]?=some (.mapIter (some b) L.length seen c0)
 le:L.length<=c0
 bel:Below w.heap.size w wr
 mem:∀ e∈K,e.2≠0/\∃ i:Nat,L[i]?=some e/\seen.contains i=true
 keys:(K.map fun e=>e.1.m).Nodup
 ev:∀ f,ev (K.map tm) f=seenEv f seen L 0
 len:K.length+(leftOf (ents L).toArray seen).size<=L.length
theorem apart_sub {L K:List TE} (hL:L.Pairwise (fun e f=>FV.apart e.1.c f.1.c)) (hmem:∀ e∈K,∃ i:Nat,L[i]?=some e) (hk:(K.map fun e=>e.1.m).Nodup):K.Pairwise (fun e f=>FV.apart e.1.c f.1.c):=by
 rw[List.pairwise_iff_getElem];intro i j hi hj hij;obtain⟨a,ha⟩:=hmem _ (List.getElem_mem hi);obtain⟨c,hc⟩:=hmem _ (List.getElem_mem hj);obtain⟨la,ea⟩:=List.getElem?_eq_some_iff.1 ha;obtain⟨lc,ec⟩:=List.getElem?_eq_some_iff.1 hc
 have hne:a≠c:=by
  rintro rfl;have e:K[i]=K[j]:=ea.symm.trans ec;have h1:=(List.pairwise_iff_getElem.1 hk) i j (by rw[List.length_map];exact hi) (by rw[List.length_map];exact hj) hij;rw[List.getElem_map,List.getElem_map,e] at h1;exact h1 rfl
 rw[<- ea,<- ec]
 rcases Nat.lt_or_gt_of_ne hne with h | h
 ·exact List.pairwise_iff_getElem.1 hL a c la lc h
 ·exact FV.apart.symm (List.pairwise_iff_getElem.1 hL c a lc la h)
theorem sum_done {L K d:List TE} {seen:Array Nat} (hd:d.Perm K) (hs:d.Pairwise (fun e f=>¬e.1.m.lt f.1.m)) (hmem:∀ e∈K,e.2≠0) (hk:(K.map fun e=>e.1.m).Nodup) (hev:∀ f,ev (K.map tm) f=seenEv f seen L 0)
  (hall:(leftOf (ents L).toArray seen).size=0):Canon (d.map tm)/\nf (L.map tm)=d.map tm:=by
 have hc:Canon (d.map tm):=by
  have hkd:(d.map fun e=>e.1.m).Nodup:=(hd.map _).nodup_iff.2 hk;refine⟨?_,fun t ht=>?_⟩
  ·rw[List.pairwise_map];rw[List.pairwise_iff_getElem];intro i j hi hj hij;have h1:=List.pairwise_iff_getElem.1 hs i j hi hj hij;have h2:=(List.pairwise_iff_getElem.1 hkd) i j (by rw[List.length_map];exact hi) (by rw[List.length_map];exact hj) hij;rw[List.getElem_map,List.getElem_map] at h2;exact(((Mo.lt_or _ _).resolve_left h1).resolve_left h2)
  ·obtain⟨e,he,rfl⟩:=List.mem_map.1 ht;exact hmem e (hd.mem_iff.1 he)
 refine⟨hc,nf_eq hc fun m=>?_⟩;show ev (d.map tm) _=ev (L.map tm) _;rw[ev_perm (hd.map tm),hev,seenEv_all];intro k _ hk2;rw[Nat.zero_add] at hk2;have h1:=all_seen (ents L).toArray seen hall (ent (L[k],k)) (ents_in (List.getElem?_eq_getElem hk2));exact h1
theorem info8:(Tryz.prog.info? 37).map (fun i=>(i.zero,i.size,i.bytes))=some (some (.agg #[.bool false,.slice none 0 0,.bool false,.slice none 0 0,.int .u16 0,.int .u16 0,.int .u16 0,.int .u16 0]),8,72):=by kernel_rfl
theorem Only.bel {b B:Nat} {u v w:World} (h:Below B u v) (g:Only b v w) (hb:B<=b) (hB:B<=v.heap.size):Below B u w:=h.trans (g.below hb hB)
theorem OT.at {w:World} {lo n c:Nat} {a:Option Addr} {ts:List TV} (h:OT w lo (.slice a n c) ts) (hne:ts≠[]):∃ g,a=some ⟨g,0,none⟩/\lo<=g/\g<w.heap.size/\∃ cur,w.heap[g]?=some (.cells cur 37 (0,0)):=by
 rcases h.2 with ⟨_,h0⟩ | ⟨g,cap,cur,hv,hlo,hg,_⟩
 ·exact absurd (List.length_eq_zero_iff.1 h0) hne
 ·simp only[Value.slice.injEq] at hv;exact⟨g,hv.1,hlo,lt_of_block hg,cur,hg⟩
theorem OT.only {w w':World} {lo b:Nat} {v:Value} {ts:List TV} (h:OT w lo v ts) (ho:Only b w w') (hb:∀ cur,w.heap[b]?≠some (.cells cur 37 (0,0))):OT w' lo v ts:=by
 refine⟨h.1,h.2.imp id ?_⟩;rintro⟨g,cap,cur,hv,hlo,hg,h3⟩;exact⟨g,cap,cur,hv,hlo,(ho.2.2.2.2 g (lt_of_block hg) (fun e=>hb cur (by rw[<- e];exact hg))).trans hg,h3⟩
theorem OT.notIter {w:World} {lo b s c:Nat} {m:Option Nat} {seen:Array Nat} {v:Value} {ts:List TV} (h:OT w lo v ts) (hb:w.heap[b]?=some (.mapIter m s seen c)):v.ownBlock≠some b:=by
 rcases h.2 with ⟨hv,_⟩ | ⟨g,cap,cur,hv,_,hg,_⟩
 ·rw[hv];exact fun h=>by cases h
 ·rw[hv];intro h;have h:some g=some b:=h
  cases h
  rw[hb] at hg
  cases hg
theorem sg_ne {q:Rat}:(cmpZ q.num 0 != 0)=decide (q≠0):=by
 rw[Bool.eq_iff_iff];simp only[bne_iff_ne,ne_eq,decide_eq_true_eq];refine not_congr ?_;rw[<- Rat.num_eq_zero];unfold cmpZ;constructor
 ·intro h;split at h
  ·exact absurd h (by decide)
  ·split at h
   ·exact absurd h (by decide)
   ·omega
 ·intro h;rw[h];rfl
theorem left_push {L:List TE} {seen:Array Nat} {K:List TE} {i:Nat} (hsh:(leftOf (ents L).toArray (seen.push i)).size<(leftOf (ents L).toArray seen).size) (h:K.length+(leftOf (ents L).toArray seen).size<=L.length) (n:Nat) (hn:n<=1) :
  K.length+n+(leftOf (ents L).toArray (seen.push i)).size<=L.length:=by omega
structure SumD (w:World) (s:Nat) (x:PV) (L d:List TE):Prop where
 row:OT w s x.v (d.map Prod.fst)
 mem:∀ e∈d,e∈L
 ap:d.Pairwise (fun e f=>FV.apart e.1.c f.1.c)
 val:d.map tm=nf (L.map tm)
theorem sum_likesS (b lo:Nat) (L:List TE) (w:World) (hM:MK w lo b L) (hL:∀ e∈L,LQ e.2 900000) (hlo:lo<=w.heap.size) (hn:L.length<=1000000) :
  Calls Tryz.prog 40 #[.map (some b)] w fun e w'=>∃ (x:PV) (d:List TE),e=.returned x.v/\SumD w' w.heap.size x L d/\Below w.heap.size w w':=by
 have HM:=qh hM;have HL:=qh hL;have HLO:=qh hlo;have HN:=qh hn;have hrg:=run_range_map (P:=Tryz.prog) w 84 35 32 b (ents L).toArray L.length Tryz.underlying84 hM.blk;obtain⟨i0,hi,hz0,hz1,hz2⟩:=info_parts info8;clear hM hL hlo hn;go_enter Tryz.func40,Tryz.ntmps40;go_wp2_with fail
 clear hrg;go_loopw [2] (fun p wr=>∃ K seen c0,SumR w b L K seen c0 p wr) (fun _ wr=>(leftOf (ents L).toArray (wr.iterSeen w.heap.size)).size)
 case atStart =>
  refine⟨[],#[],L.length,⟨World.ownsRow_nil _ _ _ _,heap_alloc_new w _,zj,zk.alloc zj _,fun e he=>(by cases he),List.nodup_nil,fun f=>(seenEv_none f L 0).symm,?_⟩⟩;rw[List.length_nil,Nat.zero_add];refine zm (Array.size_filter_le ..) ?_;rw[List.size_toArray,ents_len];exact zj
 case round =>
  obtain⟨K,seen,c0,hR⟩:=hrel;have HR:=qh hR;have hb2:wr.heap[b]?=some (.map (ents L).toArray L.length):=(hR.bel.block b HM.o.lt).trans HM.o.blk
  have hold:∀ x∈(ents L).toArray.toList,x.born<L.length:=fun x hx=>by
   obtain⟨i,t,h1,rfl⟩:=ents_mem hx;exact(List.getElem?_eq_some_iff.1 h1).1
  rcases run_next_at (P:=Tryz.prog) wr 0 w.heap.size b L.length c0 seen (ents L).toArray L.length hR.it hb2 hold hR.le with ⟨h0,hrun⟩ | ⟨e,he,w1,hal,hrun⟩
  ·have HZ:=qh h0;clear hR hb2 hold h0;have hp:=OT.slice HR.o.row;rw[List.length_map] at hp;obtain⟨pa,pc,rfl,-,-⟩:=hp;by_cases hK:K=[]
   ·subst hK;go_wp2_with fail
    refine(sort_none pa pc _ _).mono ?_;rintro e w' ⟨rfl,rfl⟩;go_wp2_with fail
    go_ret;obtain⟨h1,h2⟩:=sum_done (List.Perm.refl []) List.Pairwise.nil (fun e he=>by cases he) List.nodup_nil HR.o.ev HZ.o;exact⟨⟨pa,0,pc⟩,[],rfl,⟨HR.o.row,fun e he=>(by cases he),List.Pairwise.nil,h2.symm⟩,HR.o.bel⟩
   ·have hne:K.map Prod.fst≠[]:=fun h=>hK (List.map_eq_nil_iff.1 h)
    have hpos:0<K.length:=List.length_pos_iff.2 hK;clear hK;obtain⟨g,rfl,hg1,hg2,-⟩:=OT.at HR.o.row hne;have HG:=qh hg1;have ST:=qh (sort_any w.heap.size g pc K wr HR.o.row hpos (by have:=HR.o.len;have:=HN.o;omega));clear hne hpos hg1 hg2;go_wp2_with fail
    with_reducible refine ST.o.mono ?_
    rintro e w3 ⟨rfl,d,hd,hs,hO,hOn⟩;have HD:=qh hd;have HS:=qh hs;have HO:=qh hO;have HON:=qh hOn;clear hd hs hO hOn ST;go_wp2_with fail
    go_ret;obtain⟨h1,h2⟩:=sum_done HD.o HS.o (fun e he=>(HR.o.mem e he).1) HR.o.keys HR.o.ev HZ.o;have hbel:=Only.bel HR.o.bel HON.o HG.o HR.o.bel.size
    have hmem:∀ e∈d,∃ i:Nat,L[i]?=some e:=fun e he=>by
     obtain⟨i,h3,-⟩:=(HR.o.mem e (HD.o.mem_iff.1 he)).2;exact⟨i,h3⟩
    refine⟨⟨some ⟨g,0,none⟩,K.length,pc⟩,d,rfl,⟨HO.o,fun e he=>?_,apart_sub HM.o.ap hmem ((HD.o.map _).nodup_iff.2 HR.o.keys),h2.symm⟩,hbel⟩;obtain⟨i,h3⟩:=hmem e he;exact List.mem_of_getElem? h3
  ·obtain⟨hem,hes⟩:=mem_left he;have hsh:=left_shrinks (ents L).toArray seen e he;obtain⟨i,t,hi9,rfl⟩:=ents_mem hem;have HSH:=qh (show(leftOf (ents L).toArray (seen.push i)).size<(leftOf (ents L).toArray seen).size from hsh);have HES:=qh (show seen.contains i=false from hes);have HI:=qh hi9;change (Instr.next (.pointer (some ⟨w.heap.size,0,none⟩)) false 0).run Tryz.prog wr=.ok (.tuple #[.bool true,.agg #[.int .u16 t.1.m.x,.int .u16 t.1.m.y,.int .u16 t.1.m.z,.int .u16 t.1.m.t],.agg #[.bool t.1.c.t.s,.slice t.1.c.t.a t.1.c.t.n t.1.c.t.c,.bool t.1.c.l.s,.slice t.1.c.l.a t.1.c.l.n t.1.c.l.c]]) (putObj w1 w.heap.size (.mapIter (some b) L.length (seen.push i) L.length)) at hrun;obtain⟨W2,hW2⟩:∃ W2,W2=putObj w1 w.heap.size (.mapIter (some b) L.length (seen.push i) L.length):=⟨_,rfl⟩
   have h1:w1.heap=wr.heap/\w1.os=wr.os/\w1.tape=wr.tape/\w1.output=wr.output:=by rcases hal with rfl | rfl <;> exact⟨rfl,rfl,rfl,rfl⟩
   have hit1:w1.heap[w.heap.size]?=some (.mapIter (some b) L.length seen c0):=by rw[h1.1];exact hR.it
   have hit2:W2.heap[w.heap.size]?=some (.mapIter (some b) L.length (seen.push i) L.length):=by rw[hW2];exact putObj_same hit1
   have hOn:Only w.heap.size wr W2:=by
    rw[hW2];exact⟨h1.2.1,h1.2.2.1,h1.2.2.2,by rw[size_putObj,h1.1];exact zj,fun k _ hk=>(putObj_other w1 _ hk).trans (by rw[h1.1])⟩
   have hb3:W2.heap[b]?=some (.map (ents L).toArray L.length):=(hOn.2.2.2.2 b (Nat.lt_of_lt_of_le HM.o.lt hR.bel.size) (Nat.ne_of_lt HM.o.lt)).trans hb2;have hent:=run_entry_at (P:=Tryz.prog) W2 w.heap.size b L.length seen (ents L).toArray L.length (ent (t,i)) hit2 hb3 hem (ents_born L);change (Instr.entry (.pointer (some ⟨w.heap.size,0,none⟩))).run Tryz.prog W2=.ok (.tuple #[.agg #[.int .u16 t.1.m.x,.int .u16 t.1.m.y,.int .u16 t.1.m.z,.int .u16 t.1.m.t],.agg #[.bool t.1.c.t.s,.slice t.1.c.t.a t.1.c.t.n t.1.c.t.c,.bool t.1.c.l.s,.slice t.1.c.l.a t.1.c.l.n t.1.c.l.c]]) W2 at hent;rw[<- hW2] at hrun;have HIT:=qh hit2;have HRO:=qh (show OT W2 w.heap.size _ (K.map Prod.fst) from OT.only hR.row hOn (fun cur h=>by rw[hR.it] at h;cases h));have KG:=qh (show Below w.heap.size w W2 from Only.bel hR.bel hOn zj hR.bel.size);clear hW2 h1 hit1 hit2 hOn hb3 hb2 hold hR he hem hes hsh hi9 hal
   go_upto_region 4 with (fail)
   obtain⟨V,hV⟩:∃ V,V=(W2.alloc (.cells #[.int .u16 t.1.m.x,.int .u16 t.1.m.y,.int .u16 t.1.m.z,.int .u16 t.1.m.t] 35)).alloc (.cells #[.bool t.1.c.t.s,.slice t.1.c.t.a t.1.c.t.n t.1.c.t.c,.bool t.1.c.l.s,.slice t.1.c.l.a t.1.c.l.n t.1.c.l.c] 32):=⟨_,rfl⟩
   have hbV:Below W2.heap.size W2 V:=by rw[hV];exact(zk.alloc zj _).alloc (by go_size) _
   have B3:=qh (show Bxs V W2.heap.size 35 [.int .u16 t.1.m.x,.int .u16 t.1.m.y,.int .u16 t.1.m.z,.int .u16 t.1.m.t] by rw[hV];exact(Bxs.new W2 35 [.int .u16 t.1.m.x,.int .u16 t.1.m.y,.int .u16 t.1.m.z,.int .u16 t.1.m.t]).alloc _)
   have B4:=qh (show Bxs V (W2.heap.size+1) 32 [.bool t.1.c.t.s,.slice t.1.c.t.a t.1.c.t.n t.1.c.t.c,.bool t.1.c.l.s,.slice t.1.c.l.a t.1.c.l.n t.1.c.l.c] by
    have h:=Bxs.new (W2.alloc (.cells #[.int .u16 t.1.m.x,.int .u16 t.1.m.y,.int .u16 t.1.m.z,.int .u16 t.1.m.t] 35)) 32 [.bool t.1.c.t.s,.slice t.1.c.t.a t.1.c.t.n t.1.c.t.c,.bool t.1.c.l.s,.slice t.1.c.l.a t.1.c.l.n t.1.c.l.c];rw[World.size_alloc] at h
    rw[hV];exact h)
   rw[<- hV];have hmem:=List.mem_of_getElem? HI.o;have LQT:=qh (HL.o t hmem);have hlw:w.heap.size<W2.heap.size:=lt_of_block HIT.o;have HIT:=qh ((hbV.block w.heap.size hlw).trans HIT.o);have HRO:=qh (OT.below HRO.o hbV);have KG:=qk KG hbV;have ND:=qh ((HM.o.df t hmem).below KG.o);have HLW:=qh (Nat.lt_of_lt_of_le hlw hbV.size);obtain⟨sg,hsg⟩:∃ c,c=cmpZ t.2.num 0:=⟨_,rfl⟩;have CT:=qh (qsign ND.o.k.any (ND.o.k.len LQT.o zj));rw[show cmpZ t.2.num 0=sg from hsg.symm] at CT
   have hgs:(sg != 0)=decide (t.2≠0):=by rw[hsg];exact sg_ne
   clear hV hbV hmem hrun hent hlw hsg;have c40:=B4.o.ce 0;have c41:=B4.o.ce 1;have c42:=B4.o.ce 2;have c43:=B4.o.ce 3;have HGS:=qh hgs;clear hgs;go_wp2_with fail
   with_reducible refine CT.o.mono ?_
   rintro e w4 ⟨rfl,hb⟩;clear c40 c41 c42 c43 CT;have HIT:=qh ((hb.block w.heap.size HLW.o).trans HIT.o);have HRO:=qh (OT.below HRO.o hb);have KG:=qk KG hb;have B3:=qh (B3.o.bl hb);have B4:=qh (B4.o.bl hb);have HLW:=qh (Nat.lt_of_lt_of_le HLW.o hb.size);clear hb;by_cases hq:t.2=0
   ·have g0:(sg != 0)=false:=by rw[HGS.o];exact zo fun h=>h hq
    have HQ:=qh hq;clear hq;go_wp2_with fail
    go_roundw
    case rel =>
     refine⟨K,seen.push i,L.length,HRO.o,HIT.o,zj,KG.o,fun e he=>?_,HR.o.keys,fun f=>?_,?_⟩
     ·obtain⟨h1,j,h2,h3⟩:=HR.o.mem e he;exact⟨h1,j,h2,by rw[contains_push,h3];rfl⟩
     ·rw[seenEv_push f seen HES.o L 0 t (by rw[Nat.sub_zero];exact HI.o) (Nat.zero_le _),<- HR.o.ev,HQ.o];grind
     ·have:=left_push HSH.o HR.o.len 0 (by omega);omega
    case measure =>
     have h1:wr.iterSeen w.heap.size=seen:=by unfold World.iterSeen;rw[HR.o.it]
     have h2:w4.iterSeen w.heap.size=seen.push i:=by unfold World.iterSeen;rw[HIT.o]
     rw[h1,h2];exact HSH.o
   ·have g0:(sg != 0)=true:=by rw[HGS.o];exact decide_eq_true hq
    have HQ:=qh hq;clear hq;have c40:=B4.o.ce 0;have c41:=B4.o.ce 1;have c42:=B4.o.ce 2;have c43:=B4.o.ce 3;have c30:=B3.o.ce 0;have c31:=B3.o.ce 1;have c32:=B3.o.ce 2;have c33:=B3.o.ce 3;have HKL:=qh (show K.length+1<=1000001 by have:=HR.o.len;have:=HN.o;omega);go_wp2_with (first | (at_builtin;refine wpList_append_own _ rfl _ _ 23 rfl w.heap.size 37 i0 _ 8 72 Tryz.underlying23 hi hz0 hz1 hz2 rfl (by decide) _ _ _ rfl (HRO.o.alloc _) ⟨w4.heap.size,0,none⟩ 1 1 (TV.cells t.1) rfl rfl ?c1 ?c2 ?c3 ?c4 ?c5 ?_))
    case c1 =>
     intro j u hj
     match j,hj with
     | 0,hj=>simp[TV.cells] at hj;subst hj;simp[Addr.add]
     | 1,hj=>simp[TV.cells] at hj;subst hj;simp[Addr.add]
     | 2,hj=>simp[TV.cells] at hj;subst hj;simp[Addr.add]
     | 3,hj=>simp[TV.cells] at hj;subst hj;simp[Addr.add]
     | 4,hj=>simp[TV.cells] at hj;subst hj;simp[Addr.add]
     | 5,hj=>simp[TV.cells] at hj;subst hj;simp[Addr.add]
     | 6,hj=>simp[TV.cells] at hj;subst hj;simp[Addr.add]
     | 7,hj=>simp[TV.cells] at hj;subst hj;simp[Addr.add]
    case c2 =>
     intro u hu;simp only[TV.cells,List.mem_cons,List.mem_nil_iff,or_false] at hu
     rcases hu with rfl | rfl | rfl | rfl | rfl | rfl | rfl | rfl <;> rfl
    case c3=>rw[List.length_map];have:=HKL.o;unfold maxLen;omega
    case c4=>rw[List.length_map];have:=HKL.o;omega
    case c5=>have:=KG.o.size;simp;omega
    intro v' w5 hown hgrow _
    have O5:=qh (show OT w5 w.heap.size v' ((K++[t]).map Prod.fst) by
     have e1:(K++[t]).map Prod.fst=K.map Prod.fst++[t.1]:=by rw[List.map_append];rfl
     have e2:(K.map Prod.fst++[t.1]).flatMap TV.cells=(K.map Prod.fst).flatMap TV.cells++TV.cells t.1:=by rw[List.flatMap_append,List.flatMap_cons,List.flatMap_nil,List.append_nil]
     rw[e1];show w5.ownsRow _ _ _ _ _ _;rw[e2,List.length_append,List.length_map]
     exact hown)
    have HIT5:=qh ((hgrow.block w.heap.size (by have:=HLW.o;rw[World.size_alloc];omega) (fun h=>OT.notIter HRO.o HIT.o h.symm)).trans ((heap_alloc_old w4 _ HLW.o).trans HIT.o));have KG5:=qh ((KG.o.alloc KG.o.size _).grown hgrow (by have:=KG.o.size;rw[World.size_alloc];omega) (fun g hg=>(World.ownsRow.lt HRO.o g hg).1));clear hown hgrow c40 c41 c42 c43 c30 c31 c32 c33;go_wp2_with fail
    go_roundw
    case rel =>
     refine⟨K++[t],seen.push i,L.length,O5.o,HIT5.o,zj,KG5.o,fun e he=>?_,?_,fun f=>?_,?_⟩
     ·rcases List.mem_append.1 he with he | he
      ·obtain⟨h1,j,h2,h3⟩:=HR.o.mem e he;exact⟨h1,j,h2,by rw[contains_push,h3];rfl⟩
      ·rw[List.mem_singleton.1 he];exact⟨HQ.o,i,HI.o,by rw[contains_push];simp⟩
     ·rw[List.map_append];refine List.nodup_append.2 ⟨HR.o.keys,by simp,fun a ha c hc=>?_⟩;obtain⟨e,he,rfl⟩:=List.mem_map.1 ha
      have:c=t.1.m:=by simpa using hc
      rw[this];obtain⟨-,j,h2,h3⟩:=HR.o.mem e he;intro e1;obtain⟨l2,q2⟩:=List.getElem?_eq_some_iff.1 h2;obtain⟨l3,q3⟩:=List.getElem?_eq_some_iff.1 HI.o
      have hij:j≠i:=fun h=>by rw[h,HES.o] at h3;cases h3
      have hk:=List.pairwise_iff_getElem.1 HM.o.keys
      rcases Nat.lt_or_gt_of_ne hij with h | h
      ·have:=hk j i (by rw[List.length_map];exact l2) (by rw[List.length_map];exact l3) h;rw[List.getElem_map,List.getElem_map,q2,q3] at this;exact this e1
      ·have:=hk i j (by rw[List.length_map];exact l3) (by rw[List.length_map];exact l2) h;rw[List.getElem_map,List.getElem_map,q2,q3] at this;exact this e1.symm
     ·rw[seenEv_push f seen HES.o L 0 t (by rw[Nat.sub_zero];exact HI.o) (Nat.zero_le _),<- HR.o.ev,List.map_append,ev_append];show _+(t.2*f t.1.m+0)=_;rw[Rat.add_zero]
     ·rw[List.length_append];exact left_push HSH.o HR.o.len 1 zj
    case measure =>
     have h1:wr.iterSeen w.heap.size=seen:=by unfold World.iterSeen;rw[HR.o.it]
     have h2:w5.iterSeen w.heap.size=seen.push i:=by unfold World.iterSeen;rw[HIT5.o]
     rw[h1,h2];exact HSH.o
def put8 (w:World) (b:Nat) (v0 v1 v2 v3 v4 v5 v6 v7:Value):World :=
 (((((((w.setCell ⟨b,0,none⟩ v0).setCell ⟨b,1,none⟩ v1).setCell ⟨b,2,none⟩ v2).setCell ⟨b,3,none⟩ v3).setCell ⟨b,4,none⟩ v4).setCell ⟨b,5,none⟩ v5).setCell ⟨b,6,none⟩ v6).setCell ⟨b,7,none⟩ v7
theorem put8_bxs {w:World} {b:Nat} {t:TypeId} {u0 u1 u2 u3 u4 u5 u6 u7:Value} (h:Bxs w b t [u0,u1,u2,u3,u4,u5,u6,u7]) (v0 v1 v2 v3 v4 v5 v6 v7:Value):Bxs (put8 w b v0 v1 v2 v3 v4 v5 v6 v7) b t [v0,v1,v2,v3,v4,v5,v6,v7] :=
 (((((((h.put 0 v0).put 1 v1).put 2 v2).put 3 v3).put 4 v4).put 5 v5).put 6 v6).put 7 v7
theorem put8_df {w:World} {lo b:Nat} {x:FV} {q:Rat} {t:TypeId} {l:List Value} (h:DF w lo x q) (hb:Bxs w b t l) (ht:128≠t) (v0 v1 v2 v3 v4 v5 v6 v7:Value):DF (put8 w b v0 v1 v2 v3 v4 v5 v6 v7) lo x q:=by
 have b1:=hb.put 0 v0;have b2:=b1.put 1 v1;have b3:=b2.put 2 v2;have b4:=b3.put 3 v3;have b5:=b4.put 4 v4;have b6:=b5.put 5 v5;have b7:=b6.put 6 v6;exact(((((((h.setBxs hb ht 0 v0).setBxs b1 ht 1 v1).setBxs b2 ht 2 v2).setBxs b3 ht 3 v3).setBxs b4 ht 4 v4).setBxs b5 ht 5 v5).setBxs b6 ht 6 v6).setBxs b7 ht 7 v7
theorem put8_below {B:Nat} {u w:World} {b:Nat} (h:Below B u w) (hb:B<=b) (v0 v1 v2 v3 v4 v5 v6 v7:Value):Below B u (put8 w b v0 v1 v2 v3 v4 v5 v6 v7) :=
 (((((((h.setCell hb v0).setCell hb v1).setCell hb v2).setCell hb v3).setCell hb v4).setCell hb v5).setCell hb v6).setCell hb v7
def NB (l:List Tm) (j k:Nat):Prop:=∀ t∈l,∃ i,0<i/\i<=j/\NQ t.2 i k
theorem NB.nil (j k:Nat):NB [] j k:=fun t h=>by cases h
theorem NB.lq {l:List Tm} {j k m:Nat} (h:NB l j k) (hm:j*(k+1)<=m):∀ t∈l,LQ t.2 m:=fun t ht=>by
 obtain⟨i,_,h2,h3⟩:=h t ht;exact h3.lq (zm (Nat.mul_le_mul_right _ h2) hm)
theorem putT_len (m:Mo) (q:Rat):∀ l:List Tm,(putT m q l).length<=l.length+1
 | []=>zj
 | s :: r=>by
  unfold putT;have:=putT_len m q r;split
  ·simp
  ·simp;omega
theorem nf_of_ev {l r:List Tm} (h:∀ f,ev l f=ev r f):nf l=nf r:=nf_same h
structure RowA (w:World) (x:PV) (L:List TE):Prop where
 rt:RT w x.a (L.map Prod.fst)
 len:L.length=x.n
 af:∀ e∈L,AF w e.1.c e.2
 lf:∀ e∈L,LF e.1.c 900000
theorem RowA.below {w w':World} {x:PV} {L:List TE} (h:RowA w x L) (hb:Below w.heap.size w w'):RowA w' x L:=⟨h.rt.below hb,h.len,fun e he=>(h.af e he).below hb,h.lf⟩
theorem sum_nil (w:World):Calls Tryz.prog 40 #[.map none] w fun e w'=>e=.returned (.slice none 0 0)/\Below w.heap.size w w':=by
 have hrg:=run_range_nilMap (P:=Tryz.prog) w 84 35 32 Tryz.underlying84;go_enter Tryz.func40,Tryz.ntmps40;go_wp2_with fail
 clear hrg;have hnx:=run_next_nilMap (P:=Tryz.prog) w 0 0 0 #[];go_loopw [2] (fun p wr=>p=.slice none 0 0/\wr=w.alloc (.mapIter none 0 #[] 0)) (fun _ _=>0)
 case atStart=>exact⟨rfl,rfl⟩
 case round =>
  obtain⟨rfl,rfl⟩:=hrel;go_wp2_with fail
  refine(sort_none none 0 _ _).mono ?_;rintro e w' ⟨rfl,rfl⟩;go_wp2_with fail
  go_ret;exact⟨rfl,zk.alloc zj _⟩
theorem TV.one (t:TV):∀ u∈t.cells,u.oneCell'=true:=by
 intro u hu;simp only[TV.cells,List.mem_cons,List.mem_nil_iff,or_false] at hu
 rcases hu with rfl | rfl | rfl | rfl | rfl | rfl | rfl | rfl <;> rfl
theorem of_at {w V:World} {x:PV} {P:List Tm} (h:AP w x P) (hV:Below w.heap.size w V) (hq:∀ t∈P,LQ t.2 900000) (hn:x.n<=1000000000):Calls Tryz.prog 30 #[x.v] V fun e w'=>∃ y:PV,e=.returned y.v/\KP w y P/\y.n<=x.n/\Below V.heap.size V w':=by
 rcases h with h | ⟨h,rfl⟩
 ·exact(of_k (h.below hV) hq hn).mono fun e w' ⟨h1,h2⟩=>⟨x,h1,h,zj,h2⟩
 ·exact(of_b (h.below hV) hn).mono fun e w' ⟨h1,h2⟩=>⟨⟨none,0,0⟩,h1,KP.nil _ _ _,Nat.zero_le _,h2⟩
theorem AP.canon {w:World} {x:PV} {P:List Tm} (h:AP w x P):Canon P:=h.elim (fun h=>h.canon) (fun h=>by rw[h.2];exact Canon.nil)
theorem AP.small {w:World} {x:PV} {P:List Tm} (h:AP w x P):∀ t∈P,t.1.Small:=h.elim (fun h=>h.small) (fun h=>by rw[h.2];exact fun t ht=>by cases ht)
structure RE (w:World) (b off i:Nat) (t:TV):Prop where
 lt:b<w.heap.size
 cell:∀ j v,t.cells[j]?=some v->w.cell? ⟨b,off+i*8+j,none⟩=some v
theorem RE.below {w w':World} {b off i:Nat} {t:TV} (h:RE w b off i t) (hb:Below w.heap.size w w'):RE w' b off i t :=
 ⟨Nat.lt_of_lt_of_le h.lt hb.size,fun j v hj=>(hb.cell (p:=⟨b,off+i*8+j,none⟩) h.lt).trans (h.cell j v hj)⟩
theorem RE.eight {w:World} {b off i:Nat} {t:TV} (h:RE w b off i t) :
  w.cell? ⟨b,off+i*8,none⟩=some (.bool t.c.t.s)/\w.cell? ⟨b,off+i*8+1,none⟩=some (.slice t.c.t.a t.c.t.n t.c.t.c)/\w.cell? ⟨b,off+i*8+2,none⟩=some (.bool t.c.l.s)/\w.cell? ⟨b,off+i*8+3,none⟩=some (.slice t.c.l.a t.c.l.n t.c.l.c) /\
  w.cell? ⟨b,off+i*8+4,none⟩=some (.int .u16 t.m.x)/\w.cell? ⟨b,off+i*8+5,none⟩=some (.int .u16 t.m.y)/\w.cell? ⟨b,off+i*8+6,none⟩=some (.int .u16 t.m.z)/\w.cell? ⟨b,off+i*8+7,none⟩=some (.int .u16 t.m.t) :=
 ⟨h.cell 0 _ rfl,h.cell 1 _ rfl,h.cell 2 _ rfl,h.cell 3 _ rfl,h.cell 4 _ rfl,h.cell 5 _ rfl,h.cell 6 _ rfl,h.cell 7 _ rfl⟩
theorem RT.one {w:World} {a:Option Addr} {ts:List TV} (h:RT w a ts) (hn:ts≠[]):∃ b off,a=some ⟨b,off,none⟩/\∀ i t,ts[i]?=some t->RE w b off i t:=by
 obtain⟨b,off,ha,hc⟩:=h.ex hn;exact⟨b,off,ha,fun i t hi=>⟨block_lt_of_cell (hc i t hi 0 _ rfl),hc i t hi⟩⟩
theorem same_term (t u:TV) (q:Rat) (w:World) (h1:KF w t.c q) (h2:KF w u.c q) (hm:t.m=u.m) (hq:LQ q 900000):Calls Tryz.prog 11 #[TV.v t,TV.v u] w fun e w'=>e=.returned (.bool true)/\Below w.heap.size w w':=by
 obtain⟨V,hV⟩:∃ V,V=(w.alloc (.cells #[.bool t.c.t.s,.slice t.c.t.a t.c.t.n t.c.t.c,.bool t.c.l.s,.slice t.c.l.a t.c.l.n t.c.l.c,.int .u16 t.m.x,.int .u16 t.m.y,.int .u16 t.m.z,.int .u16 t.m.t] 37)).alloc (.cells #[.bool u.c.t.s,.slice u.c.t.a u.c.t.n u.c.t.c,.bool u.c.l.s,.slice u.c.l.a u.c.l.n u.c.l.c,.int .u16 u.m.x,.int .u16 u.m.y,.int .u16 u.m.z,.int .u16 u.m.t] 37):=⟨_,rfl⟩
 have hbV:Below w.heap.size w V:=by rw[hV];exact(zk.alloc zj _).alloc (by go_size) _
 have B1:=qh (show Bxs V w.heap.size 37 [.bool t.c.t.s,.slice t.c.t.a t.c.t.n t.c.t.c,.bool t.c.l.s,.slice t.c.l.a t.c.l.n t.c.l.c,.int .u16 t.m.x,.int .u16 t.m.y,.int .u16 t.m.z,.int .u16 t.m.t] by rw[hV];exact(Bxs.new w 37 [.bool t.c.t.s,.slice t.c.t.a t.c.t.n t.c.t.c,.bool t.c.l.s,.slice t.c.l.a t.c.l.n t.c.l.c,.int .u16 t.m.x,.int .u16 t.m.y,.int .u16 t.m.z,.int .u16 t.m.t]).alloc _)
 have B2:=qh (show Bxs V (w.heap.size+1) 37 [.bool u.c.t.s,.slice u.c.t.a u.c.t.n u.c.t.c,.bool u.c.l.s,.slice u.c.l.a u.c.l.n u.c.l.c,.int .u16 u.m.x,.int .u16 u.m.y,.int .u16 u.m.z,.int .u16 u.m.t] by
  have h:=Bxs.new (w.alloc (.cells #[.bool t.c.t.s,.slice t.c.t.a t.c.t.n t.c.t.c,.bool t.c.l.s,.slice t.c.l.a t.c.l.n t.c.l.c,.int .u16 t.m.x,.int .u16 t.m.y,.int .u16 t.m.z,.int .u16 t.m.t] 37)) 37 [.bool u.c.t.s,.slice u.c.t.a u.c.t.n u.c.t.c,.bool u.c.l.s,.slice u.c.l.a u.c.l.n u.c.l.c,.int .u16 u.m.x,.int .u16 u.m.y,.int .u16 u.m.z,.int .u16 u.m.t];rw[World.size_alloc] at h
  rw[hV];exact h)
 have KG:=qh hbV;have SF:=qh (qsameFr (h1.below hbV) (h1.len hq zj) (h2.below hbV) (h2.len hq zj) rfl);have HV:=qh hV;obtain⟨tc,⟨mx,my,mz,mt⟩⟩:=t;obtain⟨uc,um⟩:=u;change (⟨mx,my,mz,mt⟩:Mo)=um at hm;subst hm;change Calls Tryz.prog 11 #[.agg #[.bool tc.t.s,.slice tc.t.a tc.t.n tc.t.c,.bool tc.l.s,.slice tc.l.a tc.l.n tc.l.c,.int .u16 mx,.int .u16 my,.int .u16 mz,.int .u16 mt],.agg #[.bool uc.t.s,.slice uc.t.a uc.t.n uc.t.c,.bool uc.l.s,.slice uc.l.a uc.l.n uc.l.c,.int .u16 mx,.int .u16 my,.int .u16 mz,.int .u16 mt]] w _;clear hV hbV h1 h2 hq;go_enter Tryz.func11,Tryz.ntmps11
 go_upto_region 1 with (fail)
 rw[show(w.alloc (.cells #[.bool tc.t.s,.slice tc.t.a tc.t.n tc.t.c,.bool tc.l.s,.slice tc.l.a tc.l.n tc.l.c,.int .u16 mx,.int .u16 my,.int .u16 mz,.int .u16 mt] 37)).alloc (.cells #[.bool uc.t.s,.slice uc.t.a uc.t.n uc.t.c,.bool uc.l.s,.slice uc.l.a uc.l.n uc.l.c,.int .u16 mx,.int .u16 my,.int .u16 mz,.int .u16 mt] 37)=V from HV.o.symm];have c10:=B1.o.ce 0;have c11:=B1.o.ce 1;have c12:=B1.o.ce 2;have c13:=B1.o.ce 3;have c14:=B1.o.ce 4;have c15:=B1.o.ce 5;have c16:=B1.o.ce 6;have c17:=B1.o.ce 7;have c20:=B2.o.ce 0;have c21:=B2.o.ce 1;have c22:=B2.o.ce 2;have c23:=B2.o.ce 3;have c24:=B2.o.ce 4;have c25:=B2.o.ce 5;have c26:=B2.o.ce 6;have c27:=B2.o.ce 7;go_wp2_with fail
 with_reducible refine SF.o.mono ?_
 rintro e w1 ⟨rfl,hb⟩;have KG:=qk KG hb;have B1:=qh (B1.o.bl hb);have B2:=qh (B2.o.bl hb);clear hb SF c10 c11 c12 c13 c14 c15 c16 c17 c20 c21 c22 c23 c24 c25 c26 c27;have c10:=B1.o.ce 0;have c11:=B1.o.ce 1;have c12:=B1.o.ce 2;have c13:=B1.o.ce 3;have c14:=B1.o.ce 4;have c15:=B1.o.ce 5;have c16:=B1.o.ce 6;have c17:=B1.o.ce 7;have c20:=B2.o.ce 0;have c21:=B2.o.ce 1;have c22:=B2.o.ce 2;have c23:=B2.o.ce 3;have c24:=B2.o.ce 4;have c25:=B2.o.ce 5;have c26:=B2.o.ce 6;have c27:=B2.o.ce 7;go_wp2_with fail
 go_ret;exact⟨rfl,KG.o⟩
theorem same_k (x y:PV) (P:List Tm) (w:World) (hx:KP w x P) (hy:KP w y P) (hp:∀ t∈P,LQ t.2 900000) (hn:P.length<=1000000):Calls Tryz.prog 26 #[x.v,y.v] w fun e w'=>e=.returned (.bool true)/\Below w.heap.size w w':=by
 have hxl:=hx.len;have hyl:=hy.len;obtain⟨xa,xn,xc⟩:=x;obtain⟨ya,n,yc⟩:=y;change xn=P.length at hxl;change n=P.length at hyl;obtain rfl:xn=n:=hxl.trans hyl.symm;obtain⟨L1,g1,g2,g3,g4⟩:=hx.ex;obtain⟨L2,k3,k4,k5,k6⟩:=hy.ex;have HP:=qh hp;have HNN:=qh (show xn<=1000000 by rw[hyl];exact hn);have R1:=qh g1;have R2:=qh k3;have F1:=qh g3;have F2:=qh k5;have T1:=qh g4;have T2:=qh k6;have N1:=qh (show L1.length=xn from g2);have N2:=qh (show L2.length=xn from k4);change Calls Tryz.prog 26 #[.slice xa xn xc,.slice ya xn yc] w _;clear hx hy hp hn hxl hyl g1 g2 g3 g4 k3 k4 k5 k6;go_enter Tryz.func26,Tryz.ntmps26;go_wp2_with fail
 go_loopw [5] (fun i wr=>∃ j:Nat,j<=xn/\i=.int .i64 j/\Below w.heap.size w wr) (fun i _=>xn-(intOf i).toNat)
 case atStart =>
  exact⟨0,Nat.zero_le _,rfl,zk⟩
 case round =>
  obtain⟨j,hj,rfl,hb0⟩:=hrel;have HJ:=qh hj;have KG:=qh hb0;clear hj hb0;by_cases hjn:j<xn
  ·have HJN:=qh hjn
   have h1l:j<L1.length:=by rw[N1.o];exact hjn
   have h2l:j<L2.length:=by rw[N2.o];exact hjn
   obtain⟨pb,po,rfl,hc1⟩:=(R1.o.below KG.o).one (fun h=>by rw[List.map_eq_nil_iff] at h;rw[h] at h1l;simp at h1l);obtain⟨qb,qo,rfl,hc2⟩:=(R2.o.below KG.o).one (fun h=>by rw[List.map_eq_nil_iff] at h;rw[h] at h2l;simp at h2l);obtain⟨⟨t,q⟩,he1⟩:∃ e,L1[j]?=some e:=⟨_,List.getElem?_eq_getElem h1l⟩;obtain⟨⟨u,r⟩,he2⟩:∃ e,L2[j]?=some e:=⟨_,List.getElem?_eq_getElem h2l⟩;have E1:=qh (hc1 j t (by rw[List.getElem?_map,he1];rfl));have E2:=qh (hc2 j u (by rw[List.getElem?_map,he2];rfl))
   have p1:P[j]?=some (t.m,q):=by rw[<- T1.o,List.getElem?_map,he1];rfl
   have p2:P[j]?=some (u.m,r):=by rw[<- T2.o,List.getElem?_map,he2];rfl
   have pe:(t.m,q)=(u.m,r):=Option.some.inj (p1.symm.trans p2);have HMM:=qh (show t.m=u.m from congrArg Prod.fst pe);obtain rfl:q=r:=congrArg Prod.snd pe;have NT:=qh (show KF wr t.c q from(F1.o _ (List.mem_of_getElem? he1)).below KG.o);have NU:=qh (show KF wr u.c q from(F2.o _ (List.mem_of_getElem? he2)).below KG.o);have LQq:=qh (HP.o _ (List.mem_of_getElem? p1));have ek:IntKind.i64.wrap ((j:Int)+1)=(j:Int)+1:=IntWalk.i64_in _ (by have:=HJN.o;have:=HNN.o;omega);clear hc1 hc2 he1 he2 p1 p2 pe h1l h2l
   go_upto_region 6 with (fail)
   refine FS.wp_region_fresh 9 [] (FS.spOf [(8,FS.Sp.know (.bool true))])
    (fun w'=>Below wr.heap.size wr w') (by kernel_rfl) (by kernel_rfl) (by kernel_rfl)
    (FS.spOf_cons (FS.Sp.know_keeps _ _) (FS.spOf_nil)) (fun _ _ h hb=>h.trans (hb.mono h.size)) (zk.drew) ?_
   simp only[zu,zi,ze,zx,zy,zv,zw]
   iterate 8
    refine FS.wpF_reads rfl rfl rfl ?_ (fun w' hw'=>?_) ?_;rotate_left
    ·have hb':=hw'.world;obtain⟨hs0,hs1,hs2,hs3,hs4,hs5,hs6,hs7⟩:=(E1.o.below hb').eight;obtain⟨hs0,hs1,hs2,hs3,hs4,hs5,hs6,hs7⟩:=(E2.o.below hb').eight;clear hw';go_simp
     try rfl
    conv=>arg 10;simp only[Act.put,zq0,zq1,zq2]
   refine FS.wpF_spec rfl rfl rfl (fun w' hw'=>?_) ?_
   ·have hb':=hw'.world;refine FS.gives_of (FS.PK (.bool true)) ?_ (fun _ _ h=>h.post);go_simp;have CT:=same_term t u q w' (NT.o.below hb') (NU.o.below hb') HMM.o LQq.o;refine CT.mono ?_;rintro e w'' ⟨rfl,hb⟩;exact⟨_,rfl,rfl,hb⟩
   rintro _ rfl
   conv=>arg 10;simp only[Act.put,zq0,zq1,zq2]
   refine FS.wpF_nil (fun w101 hb hF=>?_);clear hF;have KG:=qk KG hb;clear hb;go_wp2_with fail
   go_roundw
   case rel =>
    exact⟨j+1,by have:=HJN.o;omega,rfl,KG.o⟩
   case measure=>simp[intOf];have:=HJN.o;omega
  ·have hge:¬((j:Int)<(xn:Int)):=by omega
   clear hjn;go_wp2_with fail
   go_ret;exact⟨rfl,KG.o⟩
end Pol
end Go.Proofs.YthacfgmdihcffaaGreatDoor
