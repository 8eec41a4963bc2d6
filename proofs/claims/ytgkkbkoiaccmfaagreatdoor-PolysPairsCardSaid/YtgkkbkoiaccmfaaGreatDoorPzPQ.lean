/-
  The law PolysPairs: whatever it is handed, it returns true, and what it was handed reads behind the call as it read before; the card ties the listed tables to the program's text.
-/
import Derived.Test.YtgkkbkoiaccmfaaGreatDoorPzPP
import Derived.Test.YtgkkbkoiaccmfaaGreatDoorCards
import Derived.Test.YtgkkbkoiaccmfaaGreatDoorTie
import Derived.WalkKit
import Derived.ProofKit
import Derived.OpenShut
import Derived.Deep.DeepHandedRow
import Derived.Lib.LaidTab
set_option linter.unusedSimpArgs false
set_option linter.unusedVariables false
set_option maxHeartbeats 16000000
set_option maxRecDepth 100000
namespace Go.Proofs.YtgkkbkoiaccmfaaGreatDoor
namespace Pol
open Go.RowKit Go.Sort Limb
theorem scale_lq {Q:List Tm} {k:Nat} (hc:Canon Q) (h:∀ t∈Q,LQ t.2 k):∀ t∈Qn (-1) Q,LQ t.2 k:=fun t ht=>by
 rw[Zk hc (by decide +kernel)] at ht;obtain⟨u,hu,rfl⟩:=List.mem_map.1 ht;show LQ (u.2*(-1)) k;rw[show u.2*(-1) = -u.2 by grind];exact(h u hu).neg
theorem ZA (x y:PV) (P Q:List Tm) (w:World) (hx:AP w x P) (hy:AP w y Q) (hc:Canon Q) (hp:∀ t∈P,LQ t.2 400000) (hq:∀ t∈Q,LQ t.2 400000) (hxn:x.n<=400000000) (hyn:y.n<=1000000) (hql:Q.length<=1000000) :
  Calls Tryz.prog 58 #[x.v,y.v] w fun e w'=>∃ z:PV,e=.returned z.v/\EP w' w.heap.size z (VX P Q)/\Below w.heap.size w w':=by
 obtain⟨xa,xn,xc⟩:=x;obtain⟨ya,yn,yc⟩:=y;have CO:=qh (show Calls Tryz.prog 76 #[.int .i64 (-1)] w _ from rofV (-1) w (by omega) (by omega));have HX:=qh hx;have HY:=qh hy;have HCQ:=qh hc;have HLP:=qh hp;have HLQ:=qh hq;have HXN:=qh hxn;have HYN:=qh hyn;have HQL:=qh (show(Qn (-1) Q).length<=1000000 by rw[Zk hc (by decide +kernel)];unfold QR;rw[List.length_map];exact hql);clear hx hy hc hp hq hxn hyn hql;change Calls Tryz.prog 58 #[.slice xa xn xc,.slice ya yn yc] w _;go_enter Tryz.func58,Tryz.ntmps58;go_wp2_with fail
 with_reducible refine CO.o.mono ?_
 rintro e w1 ⟨d,rfl,hd,hb⟩;have KG:=qh hb;have CS:=qh (show Calls Tryz.prog 20 #[.slice ya yn yc,.agg #[.bool d.t.s,.slice d.t.a d.t.n d.t.c,.bool d.l.s,.slice d.l.a d.l.n d.l.c]] w1 _ from jd9 ⟨ya,yn,yc⟩ Q d (-1:Rat) w1 (HY.o.below hb) (fun t ht=>(HLQ.o t ht).up (by omega)) HYN.o hd.k.any (hd.k.len (LQ.int (n:=-1) (by omega) (by omega)) (by omega)) ((LQ.int (n:=-1) (by omega) (by omega)).up (by omega)));clear hd hb CO;go_wp2_with fail
 with_reducible refine CS.o.mono ?_
 rintro e w2 ⟨⟨sa,sn,sc⟩,he,hs,hb⟩;obtain rfl:e=.returned (.slice sa sn sc):=he;have KG:=qk KG hb;have HSZ:=qh KG.o.size;have CA:=qh (show Calls Tryz.prog 57 #[.slice xa xn xc,.slice sa sn sc] w2 _ from Xn ⟨xa,xn,xc⟩ ⟨sa,sn,sc⟩ P (Qn (-1) Q) w2 (HX.o.below KG.o) hs.k.any HLP.o (scale_lq HCQ.o HLQ.o) HXN.o (by rw[hs.k.len];have:=HQL.o;omega));clear hs hb CS;go_wp2_with fail
 with_reducible refine CA.o.mono ?_
 rintro e w3 ⟨⟨ra,rn,rc⟩,he,hs,hb⟩;obtain rfl:e=.returned (.slice ra rn rc):=he;have KG2:=qh (KG.o.trans (hb.mono KG.o.size));have HR:=qh (hs.mono HSZ.o);clear hs hb CA;go_wp2_with fail
 go_ret;exact⟨⟨ra,rn,rc⟩,rfl,HR.o,KG2.o⟩
theorem EQ.alloc {w:World} {lo lo2:Nat} {v:Value} {Rs:List (List Tm)} (h:EQ w lo lo2 v Rs) (o:Obj):EQ (w.alloc o) lo lo2 v Rs:=h.below (zk.alloc zj _)
theorem EP.alloc {w:World} {lo:Nat} {x:PV} {P:List Tm} (h:EP w lo x P) (o:Obj):EP (w.alloc o) lo x P:=h.below (zk.alloc zj _)
theorem cell_kept {w w':World} {a:Addr} {v:Value} (h:w.cell? a=some v) (hb:Below w.heap.size w w'):w'.cell? a=some v:=(hb.cell (p:=a) (block_lt_of_cell h)).trans h
def RMulR (w:World) (P Q:List Tm) (e:Ending) (w':World):Prop :=
 (∃ z:PV,e=.returned (.tuple #[z.v,.int .i64 0])/\¬Ovf P Q/\EP w' w.heap.size z (Xt P Q)/\Below w.heap.size w w') \/
 (e=.returned (.tuple #[.slice none 0 0,.int .i64 3])/\Ovf P Q/\Below w.heap.size w w')
theorem rmul_k (x y:PV) (P Q:List Tm) (w:World) (hx:KP w x P) (hy:KP w y Q) (hp:∀ t∈P,LQ t.2 240) (hq:∀ t∈Q,LQ t.2 240) (hpn:P.length<=480) (hqn:Q.length<=25) :
  Calls Tryz.prog 52 #[x.v,y.v] w (RMulR w P Q):=by
 obtain⟨xa,xn,xc⟩:=x;obtain⟨ya,yn,yc⟩:=y;have hxl:=hx.len;have hyl:=hy.len;change xn=P.length at hxl;change yn=Q.length at hyl;have C1:=qh (show Calls Tryz.prog 54 #[.slice xa xn xc] w _ from ZH (x:=⟨xa,xn,xc⟩) hx (fun t ht=>(hp t ht).up (by omega)) (by show xn<=_;omega));have C2:=qh (fun (W:World) (hb:Below w.heap.size w W)=>(show Calls Tryz.prog 54 #[.slice ya yn yc] W _ from ZH (x:=⟨ya,yn,yc⟩) (hy.below hb) (fun t ht=>(hq t ht).up (by omega)) (by show yn<=_;omega)));have HX:=qh hx;have HY:=qh hy;have HLP:=qh hp;have HLQ:=qh hq;have HPN:=qh hpn;have HQN:=qh hqn;have HXL:=qh hxl;have HYL:=qh hyl;clear hx hy hp hq hpn hqn hxl hyl;change Calls Tryz.prog 52 #[.slice xa xn xc,.slice ya yn yc] w _;go_enter Tryz.func52,Tryz.ntmps52;go_wp2_with fail
 with_reducible refine C1.o.mono ?_
 rintro e w1 ⟨rfl,hb⟩;have KG:=qh hb;have CK:=qh (C2.o w1 hb);clear hb C1 C2;go_wp2_with fail
 with_reducible refine CK.o.mono ?_
 rintro e V ⟨rfl,hb⟩;have KG:=qk KG hb;have HVS:=qh KG.o.size;have HKG0:=qh KG.o;clear hb CK;go_wp2_with fail
 go_loopw [6,7] (fun v i wr=>∃ (j:Nat) (z:PV),v=z.v/\i=.int .i64 j/\j<=yn/\EQ wr V.heap.size V.heap.size z.v ((Q.take j).map fun q=>Xt P [q])/\(∀ q∈Q.take j,∀ t∈P,(t.1.mul q.1).Small)/\Below V.heap.size V wr) (fun _ i _=>yn-(intOf i).toNat)
 case atStart=>exact⟨0,⟨none,0,0⟩,rfl,rfl,Nat.zero_le _,EQ.nil _ _ _,fun q h=>(by cases h),zk⟩
 case round =>
  obtain⟨j,⟨ra,rn,rc⟩,hv,rfl,hj,hrow,hsm,hb0⟩:=hrel;obtain rfl:_=Value.slice ra rn rc:=hv;have HJ:=qh hj;have HROW:=qh hrow;have HSM:=qh hsm;have KW:=qh (show Bt V wr from⟨hb0⟩);have KG:=qk KG hb0;clear hj hrow hsm hb0;by_cases hjn:j<yn
  ·have HJN:=qh hjn
   have hlt:(j:Int)<(yn:Int):=by omega
   obtain⟨t,q,pb,po,rfl,hre,hkf,hqj⟩:=HY.o.get HJN.o;have E1:=qh (hre.below KG.o);have NF:=qh (hkf.below KG.o);have HQJ:=qh hqj;have HLT:=qh (HLQ.o _ (List.mem_of_getElem? hqj));have HST:=qh (HY.o.small _ (List.mem_of_getElem? hqj));have HNZ:=qh (HY.o.canon.non _ (List.mem_of_getElem? hqj));have ek:IntKind.i64.wrap ((j:Int)+1)=(j:Int)+1:=IntWalk.i64_in _ (by have:=HJN.o;have:=HYL.o;have:=HQN.o;omega);have EK:=qh ek;clear hjn hre hkf hqj ek;obtain⟨c0,c1,c2,c3,c4,c5,c6,c7⟩:=E1.o.eight;by_cases hs:∀ u∈P,(u.1.mul t.m).Small
   ·have CT:=qh (show Calls Tryz.prog 156 #[.slice xa xn xc,.agg #[.bool t.c.t.s,.slice t.c.t.a t.c.t.n t.c.t.c,.bool t.c.l.s,.slice t.c.l.a t.c.l.n t.c.l.c,.int .u16 t.m.x,.int .u16 t.m.y,.int .u16 t.m.z,.int .u16 t.m.t]] wr _ from jhi ⟨xa,xn,xc⟩ P t.c t.m q wr (HX.o.below KG.o) (fun u hu=>(HLP.o u hu).up (by omega)) (by have:=HXL.o;have:=HPN.o;show xn<=_;omega) NF.o (NF.o.len (HLT.o.up (m:=900000) (by omega)) zj) HST.o HNZ.o hs);have HS:=qh hs;clear hs;go_wp2_with fail
    with_reducible refine CT.o.mono ?_
    rintro e w2 ⟨⟨za,zn,zc⟩,he,hep,hb⟩;obtain rfl:e=.returned (.tuple #[.slice za zn zc,.int .i64 0]):=he;have HROW:=qh (HROW.o.below hb);have HLW:=qh KW.o.b.size;have HEP:=qh (hep.mono HLW.o);have KW:=qh (KW.o.below hb);have KG:=qk KG hb;clear hep hb CT c0 c1 c2 c3 c4 c5 c6 c7;go_wp2_with (first | (at_builtin;refine Ze (z:=⟨za,zn,zc⟩) rfl _ _ rfl rfl (EQ.alloc HROW.o _) (by rw[List.length_map,List.length_take];have:=HYL.o;have:=HQN.o;omega) (zm KW.o.b.size (by rw[World.size_alloc];exact Nat.le_succ _)) rfl (Bxs.new w2 23 [.slice za zn zc]) (EP.alloc HEP.o _) rfl ?_))
    intro a9 n9 c9 w9 hq9 hn9 hb9;have KV:=qh (KW.o.b.trans (Below.ofAlloc hb9 KW.o.b.size));have HR9:=qh hq9;have ek:=EK.o;clear hq9 hn9 hb9;go_wp2_with fail
    go_roundw
    case rel =>
     refine⟨j+1,⟨a9,n9,c9⟩,rfl,rfl,HJN.o,?_,fun u hu v hv=>?_,KV.o⟩
     ·rw[List.take_add_one,HQJ.o,List.map_append];have h:=HR9.o;rw[<- List.map_take] at h;exact h
     ·rw[List.take_add_one,HQJ.o] at hu
      rcases List.mem_append.1 hu with hu | hu
      ·exact HSM.o u hu v hv
      ·obtain rfl:u=(t.m,q):=by simpa using hu
       exact HS.o v hv
    case measure=>simp[intOf];have:=HJN.o;omega
   ·have CT:=qh (show Calls Tryz.prog 156 #[.slice xa xn xc,.agg #[.bool t.c.t.s,.slice t.c.t.a t.c.t.n t.c.t.c,.bool t.c.l.s,.slice t.c.l.a t.c.l.n t.c.l.c,.int .u16 t.m.x,.int .u16 t.m.y,.int .u16 t.m.z,.int .u16 t.m.t]] wr _ from jhj ⟨xa,xn,xc⟩ P t.c t.m q wr (HX.o.below KG.o) (fun u hu=>(HLP.o u hu).up (by omega)) (by have:=HXL.o;have:=HPN.o;show xn<=_;omega) NF.o (NF.o.len (HLT.o.up (m:=900000) (by omega)) zj) HST.o HNZ.o hs);have HOV:=qh (show Ovf P Q from Classical.byContradiction fun h=>hs fun u hu=>Classical.byContradiction fun h2=>h ⟨u,hu,(t.m,q),List.mem_of_getElem? HQJ.o,h2⟩);clear hs;go_wp2_with fail
    with_reducible refine CT.o.mono ?_
    rintro e w2 ⟨rfl,hb⟩;have KG:=qk KG hb;clear hb CT;go_wp2_with fail
    go_ret2;exact Or.inr ⟨rfl,HOV.o,KG.o⟩
  ·have hge:¬((j:Int)<(yn:Int)):=by omega
   have HAL:=qh (show Q.take j=Q from List.take_of_length_le (by have:=HYL.o;have:=HJ.o;omega));have HNO:=qh (show ¬Ovf P Q from fun ⟨u,hu,v,hv,h⟩=>h (HSM.o v (by rw[HAL.o];exact hv) u hu))
   have HB0:=qh (show RowB (Q.map fun q=>Xt P [q]) from by
    refine⟨by rw[List.length_map];exact HQN.o,fun b hb=>?_,fun b hb=>?_⟩
    ·obtain⟨v,hv,rfl⟩:=List.mem_map.1 hb;exact Xc _ _
    ·obtain⟨v,hv,rfl⟩:=List.mem_map.1 hb;rw[List.length_map];have hc:=capB_ge Q.length (by have:=HQN.o;omega) (List.length_pos_of_mem hv)
     exact(row_pb HX.o.canon HLP.o (HLQ.o v hv) (HY.o.canon.non v hv) HPN.o (by omega) fun u hu=>(HSM.o v (by rw[HAL.o];exact hv) u hu)).up hc hc zj)
   have HROW:=qh (show EQ wr V.heap.size V.heap.size (.slice ra rn rc) (Q.map fun q=>Xt P [q]) by have h:=HROW.o;rw[HAL.o] at h;exact h);clear hjn HSM;go_wp2_with fail
   go_loopw [6] (fun v wq=>∃ (z:PV) (Rs:List (List Tm)),v=z.v/\EQ wq V.heap.size V.heap.size z.v Rs/\RowB Rs/\sumR Rs=Xt P Q/\Below V.heap.size V wq) (fun v _=>lenV v)
   case atStart=>exact⟨⟨ra,rn,rc⟩,_,rfl,HROW.o,HB0.o,jcn P Q,KW.o.b⟩
   case round =>
    clear HROW HB0 KW KG;obtain⟨⟨sa,sn,sc⟩,Rs,hv,hrow,hrb,hsum,hb0⟩:=hrel;obtain rfl:_=Value.slice sa sn sc:=hv
    obtain rfl:sn=Rs.length:=by obtain⟨a2,c2,e⟩:=hrow.slice;injection e
    have HROW:=qh hrow;have HRB:=qh hrb;have HSUM:=qh hsum;have KW:=qh (show Bt V wr from⟨hb0⟩);clear hrow hrb hsum hb0;have HRN:=qh HRB.o.n;obtain⟨sn,hsn⟩:∃ n,n=Rs.length:=⟨_,rfl⟩;have HSN:=qh hsn;rw[<- hsn];rw[<- hsn] at HROW;by_cases h2:1<sn
    ·have H2:=qh h2
     have h3:(1:Int)<(sn:Int):=by omega
     have h4:(sn:Int)>1:=h3;obtain⟨U,rfl⟩:∃ U,U=wr:=⟨_,rfl⟩;clear h2 hsn;go_wp2_with fail
     go_loopw [10,11] (fun v i wq=>∃ (j k:Nat) (z:PV),v=z.v/\i=.int .i64 j/\j=2*k/\k<=(sn+1)/2/\EQ wq V.heap.size U.heap.size z.v ((QJ Rs).take k)/\Below U.heap.size U wq) (fun _ i _=>sn+1-(intOf i).toNat)
     case atStart=>exact⟨0,0,⟨none,0,0⟩,rfl,rfl,rfl,Nat.zero_le _,EQ.nil _ _ _,zk⟩
     case round =>
      obtain⟨j,k,⟨na,nn,nc⟩,hv,rfl,hjk,hk,hnx,hb0⟩:=hrel;obtain rfl:_=Value.slice na nn nc:=hv;have HJK:=qh hjk;have HK:=qh hk;have HNX:=qh hnx;have KU:=qh (show Bt U wr from⟨hb0⟩);clear hjk hk hnx hb0;have HNL:=qh (show((QJ Rs).take k).length<=1000000 by rw[List.length_take,X6];have:=HRN.o;have:=HSN.o;omega);by_cases hjn:j<sn
      ·have HJN:=qh hjn
       have hlt:(j:Int)<(sn:Int):=by omega
       obtain⟨g,⟨z1a,z1n,z1c⟩,R1,rfl,hg,hc1,hR1,hE1⟩:=HROW.o.get (i:=j) (by have:=HSN.o;omega);have HG:=qh hg;have HC1:=qh (show U.cell? ⟨g,j,none⟩=some (.slice z1a z1n z1c) from hc1);have HR1:=qh hR1;have HE1:=qh hE1;have ek:IntKind.i64.wrap ((j:Int)+1)=(j:Int)+1:=IntWalk.i64_in _ (by have:=HJN.o;have:=HRN.o;have:=HSN.o;omega);have ek2:IntKind.i64.wrap ((j:Int)+2)=(j:Int)+2:=IntWalk.i64_in _ (by have:=HJN.o;have:=HRN.o;have:=HSN.o;omega);have EK2:=qh ek2;have HTK:=qh (jd2 Rs (i:=k) (by have:=HJK.o;have:=HSN.o;omega));clear hjn hg hc1 hR1 hE1 ek2;by_cases hj1:j+1<sn
       ·have HJ1:=qh hj1
        have hlt1:(j:Int)+1<(sn:Int):=by omega
        have hnn1:¬((j:Int)+1<0):=by omega
        obtain⟨g2,⟨z2a,z2n,z2c⟩,R2,hg2,-,hc2,hR2,hE2⟩:=HROW.o.get (i:=j+1) (by have:=HSN.o;omega)
        obtain rfl:g=g2:=by injection hg2 with hg2;injection hg2
        have HC2:=qh (show U.cell? ⟨g,j+1,none⟩=some (.slice z2a z2n z2c) from hc2);have HR2:=qh hR2;have HE2:=qh hE2;have HLT:=qh hlt;have HLT1:=qh hlt1;have EK:=qh ek;clear hj1 hg2 hc2 hR2 hE2
        go_upto_region 17 with (fail)
        have HCB:=qh (HRB.o.b R1 (List.mem_of_getElem? HR1.o));have HCB2:=qh (HRB.o.b R2 (List.mem_of_getElem? HR2.o));have HCL:=qh (capB_le Rs.length (by have:=HRN.o;omega))
        refine FS.Jb 12 [] (FS.JH [(10,FS.Sp.made (fun x:PV=>x.v) (fun x w'=>EP w' wr.heap.size x (Qf R1 R2)) (fun _ _=>False)),(11,FS.Sp.made (fun b:Nat=>Value.slice (some ⟨b,0,none⟩) 1 1) (fun b w'=>NewS w' wr.heap.size b (Qf R1 R2)) (fun _ _=>False))]) (fun w'=>Below wr.heap.size wr w') (by kernel_rfl) (by kernel_rfl) (by kernel_rfl)
         (FS.Jd (FS.Sp.Qd _ V7 (fun _ _ _ h hs=>h.rows hs) (by kernel_rfl) (FS.JM (by kernel_rfl))) (FS.Jd (FS.Sp.Qd _ rowS (fun _ _ _ h hs=>h.rows hs) (by kernel_rfl) (FS.JM (by kernel_rfl))) FS.Jk)) (fun _ _ h hb=>h.trans (hb.mono h.size)) (zk.drew) ?_
        simp only[zu,zi,ze,zx,zy,zv,zw]
        iterate 10
         refine FS.Jc rfl rfl rfl ?_ (fun w' hw'=>?_) ?_;rotate_left
         ·have hb':=hw'.world;have hlt:=HLT.o;have hc:=cell_kept (cell_kept HC1.o KU.o.b) hb';have ek:=EK.o;have hlt:=HLT1.o
          have h0:(0:Int)<=(j:Int)+1:=by omega
          have hc:=cell_kept (cell_kept HC2.o KU.o.b) hb';clear hw';go_simp
          try rfl
         conv=>arg 10;simp only[Act.put,zq0,zq1,zq2]
        refine FS.Je rfl rfl rfl (fun w' hw'=>?_) ?_
        ·have hb':=hw'.world;refine FS.Jn (FS.PM (fun x:PV=>x.v) (fun x w'=>EP w' wr.heap.size x (Qf R1 R2)) (fun _ _=>False) w'.heap.size) ?_ (fun _ _ h=>h.post (fun _ _=>PV.inj));clear hw';go_simp;have E1:=qh ((HE1.o.below KU.o.b).below hb');have E2:=qh ((HE2.o.below KU.o.b).below hb');have CT:=(show Calls Tryz.prog 57 #[.slice z1a z1n z1c,.slice z2a z2n z2c] w' _ from Xn ⟨z1a,z1n,z1c⟩ ⟨z2a,z2n,z2c⟩ R1 R2 w' E1.o.k.any E2.o.k.any (fun t ht=>(HCB.o.lq t ht).up (by have:=HCL.o;omega)) (fun t ht=>(HCB2.o.lq t ht).up (by have:=HCL.o;omega)) (by rw[E1.o.k.len];have:=HCB.o.len;have:=HCL.o;omega) (by rw[E2.o.k.len];have:=HCB2.o.len;have:=HCL.o;omega));refine CT.mono ?_;rintro e w'' ⟨za,rfl,ho,hb⟩;exact⟨_,rfl,⟨za,rfl,ho.mono hb'.size,fun _ h=>False.elim h⟩,hb⟩
        rintro _ ⟨y10,rfl⟩
        conv=>arg 10;simp only[Act.put,zq0,zq1,zq2]
        refine FS.Je rfl rfl rfl (fun w' hw'=>?_) ?_
        ·have hb':=hw'.world;refine FS.Jn (FS.PM (fun b:Nat=>Value.slice (some ⟨b,0,none⟩) 1 1) (fun b w'=>NewS w' wr.heap.size b (Qf R1 R2)) (fun _ _=>False) w'.heap.size) ?_ (fun _ _ h=>h.post (fun _ _ h=>by cases h;rfl));go_simp;have f10:=FS.JX (val:=(fun x:PV=>x.v)) (Φ:=(fun x w'=>EP w' wr.heap.size x (Qf R1 R2))) (fun _ _=>PV.inj) (hw'.fact 10 (by kernel_rfl));exact⟨⟨w'.heap.size,rfl,⟨⟨y10,Bxs.new w' _ [y10.v],f10.alloc _⟩⟩,fun _ h=>False.elim h⟩,zk.alloc zj _⟩
        rintro _ ⟨y11,rfl⟩
        conv=>arg 10;simp only[Act.put,zq0,zq1,zq2]
        refine FS.Jm (fun w5 hb hF=>?_);obtain⟨⟨yy,hB,hE⟩⟩:=FS.JX (val:=(fun b:Nat=>Value.slice (some ⟨b,0,none⟩) 1 1)) (Φ:=(fun b w'=>NewS w' wr.heap.size b (Qf R1 R2))) (fun _ _ h=>by cases h;rfl) (hF.all 11);have HNX:=qh (HNX.o.below hb);have HLW:=qh (show V.heap.size<=wr.heap.size from zm KW.o.b.size KU.o.b.size);have KU:=qh (KU.o.below hb);have HBX:=qh hB;have HEP:=qh (hE.mono HLW.o);clear hb hF hB hE;go_wp2_with (first | (at_builtin;refine Ze (z:=yy) rfl _ _ rfl rfl HNX.o HNL.o KU.o.b.size rfl HBX.o HEP.o rfl ?_))
        intro a9 n9 c9 w9 hq9 hn9 hb9;have KV:=qh (KU.o.b.trans hb9);have HR9:=qh hq9;have ek2:=EK2.o;clear hq9 hn9 hb9;go_wp2_with fail
        go_roundw
        case rel =>
         refine⟨j+2,k+1,⟨a9,n9,c9⟩,rfl,rfl,by have:=HJK.o;omega,by have:=HJK.o;have:=HJN.o;omega,?_,KV.o⟩;rw[HTK.o,if_pos (by have:=HJK.o;have:=HJ1.o;have:=HSN.o;omega),<- HJK.o,List.getD_eq_getElem?_getD,List.getD_eq_getElem?_getD,HR1.o,HR2.o];exact HR9.o
        case measure=>simp[intOf];have:=HJN.o;omega
       ·have hlt1:¬((j:Int)+1<(sn:Int)):=by omega
        have HJ1:=qh hj1;have hc:=cell_kept HC1.o KU.o.b;have E1:=qh (HE1.o.below KU.o.b);clear hj1;go_wp2_with (first | (at_builtin;refine Ze (z:=⟨z1a,z1n,z1c⟩) rfl _ _ rfl rfl (EQ.alloc HNX.o _) HNL.o (zm KU.o.b.size (by rw[World.size_alloc];exact Nat.le_succ _)) rfl (Bxs.new wr 23 [.slice z1a z1n z1c]) (EP.alloc E1.o _) rfl ?_))
        intro a9 n9 c9 w9 hq9 hn9 hb9;have KV:=qh (KU.o.b.trans (Below.ofAlloc hb9 KU.o.b.size));have HR9:=qh hq9;have ek2:=EK2.o;clear hq9 hn9 hb9 hc;go_wp2_with fail
        go_roundw
        case rel =>
         refine⟨j+2,k+1,⟨a9,n9,c9⟩,rfl,rfl,by have:=HJK.o;omega,by have:=HJK.o;have:=HJN.o;omega,?_,KV.o⟩;rw[HTK.o,if_neg (by have:=HJK.o;have:=HJ1.o;have:=HSN.o;omega),<- HJK.o,List.getD_eq_getElem?_getD,HR1.o];exact HR9.o
        case measure=>simp[intOf];have:=HJN.o;omega
      ·have hge2:¬((j:Int)<(sn:Int)):=by omega
       have HJE:=qh (show(sn+1)/2<=k by have:=HJK.o;omega)
       have HNP:=qh (show EQ wr V.heap.size V.heap.size (.slice na nn nc) (QJ Rs) by
        have h:=HNX.o;rw[List.take_of_length_le (by rw[X6];have:=HJE.o;have:=HSN.o;omega)] at h
        exact h.mono zj KW.o.b.size)
       have HNN:=qh (show nn=(sn+1)/2 by obtain⟨a2,c2,e⟩:=HNP.o.slice;injection e with e1 e2;rw[e2,X6,HSN.o]);clear hjn;go_wp2_with fail
       go_roundw
       case rel=>exact⟨⟨na,nn,nc⟩,QJ Rs,rfl,HNP.o,HRB.o.pairs (by have:=H2.o;have:=HSN.o;omega),(U2 Rs).trans HSUM.o,KW.o.b.trans (KU.o.b.mono KW.o.b.size)⟩
       case measure=>show nn<sn;have:=HNN.o;have:=H2.o;omega
    ·have h3:¬((1:Int)<(sn:Int)):=by omega
     have h4:¬((sn:Int)>1):=h3;have KG:=qh (HKG0.o.trans (KW.o.b.mono HKG0.o.size));have HSZ:=qh HKG0.o.size;by_cases h5:sn=0
     ·have h6:(sn:Int)=0:=by omega
      have HN:=qh (show Xt P Q=[] by rw[<- HSUM.o,List.length_eq_zero_iff.1 (hsn.symm.trans h5)];rfl);clear h2 h5 hsn;go_wp2_with fail
      go_ret2;exact Or.inl ⟨⟨none,0,0⟩,rfl,HNO.o,by rw[HN.o];exact EP.nil,KG.o⟩
     ·have h6:¬((sn:Int)=0):=by omega
      have h7:(0:Int)<(sn:Int):=by omega
      obtain⟨g,⟨z1a,z1n,z1c⟩,R1,rfl,hg,hc1,hR1,hE1⟩:=HROW.o.get (i:=0) (by have:=HSN.o;omega);have hc1:wr.cell? ⟨g,0,none⟩=some (.slice z1a z1n z1c):=hc1;have HE1:=qh (hE1.mono HSZ.o)
      have HN:=qh (show Xt P Q=R1 by
       obtain⟨r,hr⟩:∃ r,Rs=[r]:=List.length_eq_one_iff.1 (by omega);subst hr
       obtain rfl:r=R1:=by simpa using hR1
       rw[<- HSUM.o]
       exact sum_one (HRB.o.canon r (List.mem_singleton.2 rfl)))
      clear h2 h5 hsn hR1 hE1;go_wp2_with fail
      go_ret2;exact Or.inl ⟨⟨z1a,z1n,z1c⟩,rfl,HNO.o,by rw[HN.o];exact HE1.o,KG.o⟩
theorem rmul_b (x y:PV) (w:World) (h:BP w x\/(BP w y/\∃ P,KP w x P/\∀ t∈P,LQ t.2 900000)) (hxn:x.n<=1000000) (hyn:y.n<=1000000) :
  Calls Tryz.prog 52 #[x.v,y.v] w fun e w'=>e=.returned (.tuple #[.slice none 0 0,.int .i64 1])/\Below w.heap.size w w':=by
 obtain⟨xa,xn,xc⟩:=x;obtain⟨ya,yn,yc⟩:=y;change Calls Tryz.prog 52 #[.slice xa xn xc,.slice ya yn yc] w _
 rcases h with h | ⟨h,P,hk,hl⟩
 ·have C1:=qh (show Calls Tryz.prog 54 #[.slice xa xn xc] w _ from KC (x:=⟨xa,xn,xc⟩) h (zm hxn (by decide)));go_enter Tryz.func52,Tryz.ntmps52;go_wp2_with fail
  with_reducible refine C1.o.mono ?_
  rintro e w1 ⟨rfl,hb⟩;have KG:=qh hb;clear hb C1 h;go_wp2_with fail
  go_ret2;exact⟨rfl,KG.o⟩
 ·have C1:=qh (show Calls Tryz.prog 54 #[.slice xa xn xc] w _ from ZH (x:=⟨xa,xn,xc⟩) hk hl (zm hxn (by decide)));have C2:=qh (fun (W:World) (hb:Below w.heap.size w W)=>(show Calls Tryz.prog 54 #[.slice ya yn yc] W _ from KC (x:=⟨ya,yn,yc⟩) (h.below hb) (zm hyn (by decide))));clear h hk hl;go_enter Tryz.func52,Tryz.ntmps52;go_wp2_with fail
  with_reducible refine C1.o.mono ?_
  rintro e w1 ⟨rfl,hb⟩;have KG:=qh hb;have CK:=qh (C2.o w1 hb);clear hb C1 C2;go_wp2_with fail
  with_reducible refine CK.o.mono ?_
  rintro e w2 ⟨rfl,hb⟩;have KG:=qk KG hb;clear hb CK;go_wp2_with fail
  go_ret2;exact⟨rfl,KG.o⟩
theorem jhk (x y:PV) (P Q:List Tm) (w:World) (hx:AP w x P) (hy:AP w y Q) (hP:Canon P) (hc:Canon Q) (hp:∀ t∈P,LQ t.2 400000) (hq:∀ t∈Q,LQ t.2 400000) (hxn:x.n<=400000000) (hyn:y.n<=1000000) (hql:Q.length<=1000000) :
  Calls Tryz.prog 56 #[x.v,y.v] w fun e w'=>e=.returned (.bool (decide (P=Q)))/\Below w.heap.size w w':=by
 have CS:=qh (ZA x y P Q w hx hy hc hp hq hxn hyn hql);obtain⟨xa,xn,xc⟩:=x;obtain⟨ya,yn,yc⟩:=y;have HP:=qh hP;have HQ:=qh hc;clear hx hy hP hc hp hq hxn hyn hql;change Calls Tryz.prog 56 #[.slice xa xn xc,.slice ya yn yc] w _;go_enter Tryz.func56,Tryz.ntmps56;go_wp2_with fail
 with_reducible refine CS.o.mono ?_
 rintro e w1 ⟨⟨za,zn,zc⟩,he,hz,hb⟩;obtain rfl:e=.returned (.slice za zn zc):=he;have hzl:=hz.k.len;change zn=_ at hzl;by_cases h:P=Q
 ·have h0:(zn:Int)=0:=by rw[hzl,(jco HP.o HQ.o).2 h];rfl
  have hq:((zn:Int)==0)=true:=by simpa using h0
  have HD:=qh (show decide (P=Q)=true from decide_eq_true h);have KG:=qh hb;clear hz hb hzl h CS;go_wp2_with fail
  go_ret;exact⟨by rw[HD.o];rfl,KG.o⟩
 ·have h0:¬((zn:Int)=0):=fun h9=>h ((jco HP.o HQ.o).1 (List.length_eq_zero_iff.1 (by omega)))
  have hq:((zn:Int)==0)=false:=by simpa using h0
  have HD:=qh (show decide (P=Q)=false from zo h);have KG:=qh hb;clear hz hb hzl h CS;go_wp2_with fail
  go_ret;exact⟨by rw[HD.o];rfl,KG.o⟩
end Pol
namespace Book
open Go.RowKit Go.Sort Go.FreshG Limb Pol
structure HG (w:World) (lo:Nat) (S:Nat->Prop) (L M:List HL):Prop where
 num:∀ x∈L,(∃ o,Limb.Own 160 w lo x.a x.n x.c o)/\x.n<=900000000
 row:∀ x∈M,(∃ o,J4 w lo x.a x.n x.c o)/\x.n<=100000000
 at_:∀ x:HL,x∈L++M->∀ p:Addr,x.a=some p->S p.block
 nq:∀ x:HL,x∈L++M->x.q<=30000
 al:Z5 L
 am:Z5 M
theorem HG.nil (w:World) (lo:Nat) (S:Nat->Prop):HG w lo S [] []:=⟨fun x h=>(by cases h),fun x h=>(by cases h),fun x h=>(by cases h),fun x h=>(by cases h),List.Pairwise.nil,List.Pairwise.nil⟩
theorem HG.app {w:World} {lo:Nat} {S T U:Nat->Prop} {L M L2 M2:List HL} (h:HG w lo S L M) (g:HG w lo T L2 M2) (hS:∀ b,S b->U b) (hT:∀ b,T b->U b) (hd:∀ b,S b->¬T b):HG w lo U (L++L2) (M++M2) where
 num x hx:=(List.mem_append.1 hx).elim (h.num x) (g.num x)
 row x hx:=(List.mem_append.1 hx).elim (h.row x) (g.row x)
 at_ x hx p hp:=by
  rcases List.mem_append.1 hx with hx | hx <;> rcases List.mem_append.1 hx with hx | hx
  ·exact hS _ (h.at_ x (List.mem_append_left _ hx) p hp)
  ·exact hT _ (g.at_ x (List.mem_append_left _ hx) p hp)
  ·exact hS _ (h.at_ x (List.mem_append_right _ hx) p hp)
  ·exact hT _ (g.at_ x (List.mem_append_right _ hx) p hp)
 nq x hx:=by
  rcases List.mem_append.1 hx with hx | hx <;> rcases List.mem_append.1 hx with hx | hx
  ·exact h.nq x (List.mem_append_left _ hx)
  ·exact g.nq x (List.mem_append_left _ hx)
  ·exact h.nq x (List.mem_append_right _ hx)
  ·exact g.nq x (List.mem_append_right _ hx)
 al:=List.pairwise_append.2 ⟨h.al,g.al,fun x hx y hy p q hp hq e=>hd p.block (h.at_ x (List.mem_append_left _ hx) p hp) (by rw[e];exact g.at_ y (List.mem_append_left _ hy) q hq)⟩
 am:=List.pairwise_append.2 ⟨h.am,g.am,fun x hx y hy p q hp hq e=>hd p.block (h.at_ x (List.mem_append_right _ hx) p hp) (by rw[e];exact g.at_ y (List.mem_append_right _ hy) q hq)⟩
theorem HG.keep {w w':World} {lo:Nat} {S:Nat->Prop} {L M:List HL} (h:HG w lo S L M) (hk:∀ b,S b->w'.heap[b]?=w.heap[b]?):HG w' lo S L M where
 num x hx:=by
  obtain⟨⟨o,ho⟩,hn⟩:=h.num x hx;exact⟨⟨o,ho.keep fun p hp=>hk _ (h.at_ x (List.mem_append_left _ hx) p hp)⟩,hn⟩
 row x hx:=by
  obtain⟨⟨o,ho⟩,hn⟩:=h.row x hx;exact⟨⟨o,ho.keep fun p hp=>hk _ (h.at_ x (List.mem_append_right _ hx) p hp)⟩,hn⟩
 at_:=h.at_
 nq:=h.nq
 al:=h.al
 am:=h.am
theorem HG.mono {w:World} {lo lo':Nat} {S:Nat->Prop} {L M:List HL} (h:HG w lo S L M) (hl:lo'<=lo):HG w lo' S L M where
 num x hx:=by
  obtain⟨⟨o,ho⟩,hn⟩:=h.num x hx;exact⟨⟨o,ho.mono hl⟩,hn⟩
 row x hx:=by
  obtain⟨⟨o,ho⟩,hn⟩:=h.row x hx;exact⟨⟨o,ho.mono hl⟩,hn⟩
 at_:=h.at_
 nq:=h.nq
 al:=h.al
 am:=h.am
theorem BkS.apartG {w:World} {b base q lo:Nat} {S:Nat->Prop} {L M:List HL} (h:BkS w b base q L M) (hG:HG w lo S L M) (h0:0<L.length) (h1:0<M.length) (hk:L.length<=30000) (hkt:M.length<=30000) (hS:∀ b,S b->lo<=b/\b<base) (hlo:lo<=base) :
  Calls Tryz.prog 25 #[.pointer (some ⟨b,0,none⟩)] w fun e w'=>e=.returned (.bool true)/\Below lo w w':=by
 classical
 have hO:∀ x:HL,∃ o,x∈L->Limb.Own 160 w lo x.a x.n x.c o:=fun x=>by
  by_cases hx:x∈L
  ·obtain⟨o,ho⟩:=(hG.num x hx).1;exact⟨o,fun _=>ho⟩
  ·exact⟨fun _=>0,fun h=>absurd h hx⟩
 have hT:∀ x:HL,∃ o,x∈M->J4 w lo x.a x.n x.c o:=fun x=>by
  by_cases hx:x∈M
  ·obtain⟨o,ho⟩:=(hG.row x hx).1;exact⟨o,fun _=>ho⟩
  ·exact⟨fun _=>.bool true,fun h=>absurd h hx⟩
 obtain⟨O,hO⟩:=Classical.axiomOfChoice hO;obtain⟨Ot,hT⟩:=Classical.axiomOfChoice hT
 refine h.apart h0 h1 hk hkt (fun x hx=>hG.nq x (List.mem_append_left _ hx)) (fun x hx=>hG.nq x (List.mem_append_right _ hx)) O Ot hO hT (fun x hx=>(hG.num x hx).2) (fun x hx=>(hG.row x hx).2)
  (fun x hx p hp=>hS _ (hG.at_ x hx p hp)) hlo hG.al hG.am fun x hx y hy p q hp hq e=>?_
 rcases(hO x hx).place with ⟨h,-⟩ | ⟨g,cur,ha,-,hg,-⟩
 ·rw[h] at hp;cases hp
 ·rcases(hT y hy).place with ⟨h,-⟩ | ⟨g2,cur2,ha2,-,hg2,-⟩
  ·rw[h] at hq;cases hq
  ·rw[ha] at hp;rw[ha2] at hq
   cases hp;cases hq
   change g=g2 at e;subst e;rw[hg] at hg2
   injection hg2 with hg2
   injection hg2 with _ hg2
   exact absurd hg2 (by decide)
theorem own_lt {w:World} {lo n c:Nat} {a:Option Addr} {o:Nat->Int} (h:Limb.Own 160 w lo a n c o) {p:Addr} (hp:a=some p):lo<=p.block/\p.block<w.heap.size:=(h.blk hp).2
theorem ownT_lt {w:World} {lo n c:Nat} {a:Option Addr} {o:Nat->Value} (h:J4 w lo a n c o) {p:Addr} (hp:a=some p):lo<=p.block/\p.block<w.heap.size:=by
 rcases h.place with h0 | ⟨g,cur,ha,hbg,hg,hcap,hc⟩
 ·rw[h0.1] at hp;cases hp
 ·rw[ha] at hp
  cases hp
  exact⟨hbg,lt_of_block hg⟩
def Bw (lo hi b:Nat):Prop:=lo<=b/\b<hi
structure TOwn (w:World) (lo:Nat) (t:FV):Prop where
 top:∃ o,Limb.Own 160 w lo t.t.a t.t.n t.t.c o
 low:∃ o,Limb.Own 160 w lo t.l.a t.l.n t.l.c o
 ap:Xw t.t.a t.l.a
 n:t.t.n<=900000000/\t.l.n<=900000000
theorem DF.town {w:World} {lo:Nat} {x:FV} {q:Rat} (h:DF w lo x q) (hl:LQ q 900000):TOwn w lo x:=⟨⟨_,h.t.own⟩,⟨_,h.l.own⟩,h.ap,by
 have:=h.k.len hl zj
 exact⟨by have:=this.1;omega,by have:=this.2;omega⟩⟩
theorem TwF.town {w:World} {lo:Nat} {t x:FV} {o1 o2:Nat->Int} (h:TwF w lo t x o1 o2) (h1:x.t.n<=100000000) (h2:x.l.n<=100000000):TOwn w lo t :=
 ⟨⟨_,by rw[h.top.n,h.top.c];exact h.top.own.less (Nat.le_succ _)⟩,⟨_,by rw[h.low.n,h.low.c];exact h.low.own.less (Nat.le_succ _)⟩,h.ap,by rw[h.top.n,h.low.n];omega⟩
theorem XD:∀ {ts:List TV} {q:Nat} {x:HL},x∈Qo ts q->∃ t∈ts,x.q<q+2*ts.length/\((x.a=t.c.t.a/\x.n=t.c.t.n/\x.c=t.c.t.c)\/(x.a=t.c.l.a/\x.n=t.c.l.n/\x.c=t.c.l.c))
 | [],_,_,h=>by cases h
 | t :: r,q,x,h=>by
  rcases List.mem_cons.1 h with rfl | h
  ·exact⟨t,List.mem_cons_self ..,by simp only[List.length_cons];omega,Or.inl ⟨rfl,rfl,rfl⟩⟩
  ·rcases List.mem_cons.1 h with rfl | h
   ·exact⟨t,List.mem_cons_self ..,by simp only[List.length_cons];omega,Or.inr ⟨rfl,rfl,rfl⟩⟩
   ·obtain⟨s,h1,h2,h3⟩:=XD h;exact⟨s,List.mem_cons_of_mem _ h1,by simp only[List.length_cons];omega,h3⟩
theorem blk_t {t:FV} {x:HL} (h:x.a=t.t.a/\x.n=t.t.n/\x.c=t.t.c\/x.a=t.l.a/\x.n=t.l.n/\x.c=t.l.c) {p:Addr} (hp:x.a=some p):FV.blk t p.block:=by
 rcases h with ⟨h,-⟩ | ⟨h,-⟩
 ·exact Or.inl ⟨p,h.symm.trans hp,rfl⟩
 ·exact Or.inr ⟨p,h.symm.trans hp,rfl⟩
theorem Km:∀ {ts:List TV} {q:Nat},(∀ t∈ts,Xw t.c.t.a t.c.l.a)->(ts.Pairwise fun t s=>FV.apart t.c s.c)->Z5 (Qo ts q)
 | [],_,_,_=>List.Pairwise.nil
 | t :: r,q,h,hp=>by
  obtain⟨h1,h2⟩:=List.pairwise_cons.1 hp;have hr:=Km (ts:=r) (q:=q+2) (fun s hs=>h s (List.mem_cons_of_mem _ hs)) h2
  have far:∀ y∈Qo r (q+2),∀ p:Addr,y.a=some p->¬FV.blk t.c p.block:=fun y hy p hp hb=>by
   obtain⟨s,hs,-,e⟩:=XD hy;exact h1 s hs _ hb (blk_t e hp)
  refine List.pairwise_cons.2 ⟨fun y hy p p2 e1 e2=>?_,List.pairwise_cons.2 ⟨fun y hy p p2 e1 e2 he=>?_,hr⟩⟩
  ·rcases List.mem_cons.1 hy with rfl | hy
   ·exact h t (List.mem_cons_self ..) p p2 e1 e2
   ·exact fun he=>far y hy p2 e2 (Or.inl ⟨p,e1,he⟩)
  ·exact far y hy p2 e2 (Or.inr ⟨p,e1,he⟩)
theorem jcw {w:World} {lo:Nat} {ts:List TV} {a:Option Addr} {n c:Nat} {q:Nat} {o:Nat->Value} (h:∀ t∈ts,TOwn w lo t.c) (hp:ts.Pairwise fun t s=>FV.apart t.c s.c) (hr:J4 w lo a n c o) (hn:n<=100000000) (hq:q+2*ts.length<=30000) :
  HG w lo (Bw lo w.heap.size) (Qo ts q) [⟨a,n,c,q+2*ts.length⟩] where
 num x hx:=by
  obtain⟨t,ht,-,⟨e1,e2,e3⟩ | ⟨e1,e2,e3⟩⟩:=XD hx
  ·obtain⟨o,ho⟩:=(h t ht).top;exact⟨⟨o,by rw[e1,e2,e3];exact ho⟩,by rw[e2];exact(h t ht).n.1⟩
  ·obtain⟨o,ho⟩:=(h t ht).low;exact⟨⟨o,by rw[e1,e2,e3];exact ho⟩,by rw[e2];exact(h t ht).n.2⟩
 row x hx:=by rw[List.mem_singleton.1 hx];exact⟨⟨o,hr⟩,hn⟩
 at_ x hx p e:=by
  rcases List.mem_append.1 hx with hx | hx
  ·obtain⟨t,ht,-,⟨e1,e2,e3⟩ | ⟨e1,e2,e3⟩⟩:=XD hx
   ·obtain⟨o,ho⟩:=(h t ht).top;exact own_lt ho (e1.symm.trans e)
   ·obtain⟨o,ho⟩:=(h t ht).low;exact own_lt ho (e1.symm.trans e)
  ·rw[List.mem_singleton.1 hx] at e;exact ownT_lt hr e
 nq x hx:=by
  rcases List.mem_append.1 hx with hx | hx
  ·obtain⟨t,ht,hl,-⟩:=XD hx;omega
  ·rw[List.mem_singleton.1 hx];exact hq
 al:=Km (fun t ht=>(h t ht).ap) hp
 am:=List.pairwise_singleton _ _
theorem OT.ownT {w:World} {lo n c m:Nat} {a:Option Addr} {ts:List TV} (h:OT w lo (.slice a m c) ts) (hn:n<=m):∃ o,J4 w lo a n c o:=by
 rcases h.2 with ⟨hv,h0⟩ | ⟨g,cap,cur,hv,hlo,hg,hnc,hcm,hcs,htake⟩
 ·injection hv with e1 e2 e3
  subst e1 e2 e3;exact⟨fun _=>.bool true,⟨by omega,Or.inl ⟨rfl,by omega,rfl⟩⟩⟩
 ·injection hv with e1 e2 e3
  subst e1 e2 e3;refine⟨fun i=>cur.getD i (.bool true),⟨by omega,Or.inr ⟨g,cur,rfl,hlo,hg,by omega,fun i hi=>?_⟩⟩⟩
  have hi2:i<cur.size:=by have:=Nat.mul_le_mul_right 8 (zm hn hnc);omega
  rw[Array.getElem?_eq_getElem hi2,Array.getD_eq_getD_getElem?,Array.getElem?_eq_getElem hi2];rfl
theorem DP.hg {w:World} {lo:Nat} {x:PV} {P:List Tm} (h:DP w lo x P) (hl:∀ t∈P,LQ t.2 900000) (hn:P.length<=10000) {q:Nat} (hq:q+2*P.length<=30000) :
  ∃ ts:List TV,RT w x.a ts/\ts.length=x.n/\x.n=P.length/\HG w lo (Bw lo w.heap.size) (Qo ts q) [⟨x.a,x.n,x.c,q+2*x.n⟩]:=by
 have hxn:=h.k.len;obtain⟨L,h1,h2,h3,h4⟩:=h.ex;obtain⟨xa,xn,xc⟩:=x;change xn=P.length at hxn;obtain⟨a',c',e,hc,hr⟩:=OT.slice h1;change Value.slice xa xn xc=_ at e
 injection e with e1 e2 e3
 subst e1 e3;obtain⟨o,ho⟩:=OT.ownT (n:=xn) h1 zj;refine⟨L.map Prod.fst,hr,e2.symm,hxn,?_⟩
 have hh:=jcw (q:=q) (fun t ht=>by
  obtain⟨e,he,rfl⟩:=List.mem_map.1 ht
  exact DF.town (h2 e he) (hl (e.1.m,e.2) (by rw[<- h4];exact List.mem_map.2 ⟨e,he,rfl⟩))) (List.pairwise_map.2 h3) ho (by omega) (by rw[<- e2];omega)
 rw[<- e2] at hh;exact hh
theorem TwP.hg {w0 w:World} {lo:Nat} {x:PV} {ts us:List TV} (h:TwP w0 w lo x ts us) (hs:∀ u∈us,u.c.t.n<=100000000/\u.c.l.n<=100000000) (hn:us.length<=10000) {q:Nat} (hq:q+2*us.length<=30000) :
  RT w x.a ts/\ts.length=x.n/\HG w lo (Bw lo w.heap.size) (Qo ts q) [⟨x.a,x.n,x.c,q+2*x.n⟩]:=by
 have hxn:=h.n;have hle:=h.len;obtain⟨xa,xn,xc⟩:=x;change xn=us.length at hxn;obtain⟨a',c',e,hc,hr⟩:=OT.slice h.row;change Value.slice xa (xn+1) xc=_ at e
 injection e with e1 e2 e3
 subst e1 e3;obtain⟨o,ho⟩:=OT.ownT (n:=xn) h.row (Nat.le_succ _);refine⟨⟨fun hne=>?_⟩,by show ts.length=xn;omega,?_⟩
 ·obtain⟨b,off,ha,hcc⟩:=hr.ex (by simp);exact⟨b,off,ha,fun i t hi=>hcc i t (by rw[List.getElem?_append_left (List.getElem?_eq_some_iff.1 hi).1];exact hi)⟩
 ·have hh:=jcw (q:=q) (fun t ht=>by
   obtain⟨i,hi⟩:=List.mem_iff_getElem?.1 ht;have hil:=(List.getElem?_eq_some_iff.1 hi).1;have hu:us[i]?=some us[i]:=List.getElem?_eq_getElem (by omega);obtain⟨-,o1,o2,-,-,hf⟩:=h.each i t _ hi hu;obtain⟨g1,g2⟩:=hs _ (List.mem_of_getElem? hu)
   exact TwF.town hf g1 g2) h.ap ho (by omega) (by omega)
  rw[show ts.length=xn by omega] at hh;exact hh
abbrev book0:Array Value:=#[.int .i64 0,.slice none 0 0,.slice none 0 0,.slice none 0 0,.slice none 0 0,.slice none 0 0,.slice none 0 0,.slice none 0 0,.slice none 0 0,.slice none 0 0,.slice none 0 0,.slice none 0 0,.slice none 0 0]
theorem BkS.new (w:World):BkS (w.alloc (.cells book0 53)) w.heap.size w.heap.size 0 [] []:=by
 refine⟨⟨.slice none 0 0,.slice none 0 0,⟨?_,World.ownsRow_nil _ _ _ _,World.ownsRow_nil _ _ _ _,(fun h=>by cases h),(fun h=>by cases h),fun g h=>by cases h⟩,fun _=>rfl,fun _=>rfl⟩,zj,by rw[World.size_alloc];exact Nat.le_succ _⟩
 refine World.rowIs_alloc w _ 53 _ fun i hi=>?_
 have:i=0\/i=1\/i=2\/i=3\/i=4\/i=5\/i=6\/i=7\/i=8\/i=9\/i=10\/i=11\/i=12:=by
  have:i<13:=hi;omega
 rcases this with rfl | rfl | rfl | rfl | rfl | rfl | rfl | rfl | rfl | rfl | rfl | rfl | rfl <;> rfl
theorem RT.Q8 {base:Nat} {w w':World} {a:Option Addr} {ts:List TV} (h:RT w a ts) (hk:QL base w w') (hf:∀ p,a=some p->p.block<base):RT w' a ts:=by
 refine⟨fun hn=>?_⟩;obtain⟨b,off,ha,hc⟩:=h.ex hn;exact⟨b,off,ha,fun i t hi j v hj=>(World.cell?_of_block (a:=⟨b,off+i*8+j,none⟩) (hk.bel.block b (hf _ ha))).trans (hc i t hi j v hj)⟩
theorem HG.Q8 {base:Nat} {w w':World} {lo:Nat} {S:Nat->Prop} {L M:List HL} (h:HG w lo S L M) (hk:QL base w w') (hS:∀ b,S b->b<base):HG w' lo S L M:=h.keep fun b hb=>hk.bel.block b (hS b hb)
structure PG (w:World) (x:PV) (q:Nat) (ts:List TV) (lo hi:Nat) (S:Nat->Prop):Prop where
 rt:RT w x.a ts
 len:ts.length=x.n
 hg:HG w lo S (Qo ts q) [⟨x.a,x.n,x.c,q+2*x.n⟩]
 at_:∀ b,S b->b<hi
theorem PG.far {w:World} {x:PV} {q:Nat} {ts:List TV} {lo hi:Nat} {S:Nat->Prop} (h:PG w x q ts lo hi S):∀ p,x.a=some p->p.block<hi:=fun p hp=>h.at_ _ (h.hg.at_ ⟨x.a,x.n,x.c,q+2*x.n⟩ (by simp) p hp)
theorem PG.Q8 {base:Nat} {w w':World} {x:PV} {q:Nat} {ts:List TV} {lo hi:Nat} {S:Nat->Prop} (h:PG w x q ts lo hi S) (hk:QL base w w') (hh:hi<=base):PG w' x q ts lo hi S :=
 ⟨RT.Q8 h.rt hk fun p hp=>Nat.lt_of_lt_of_le (h.far p hp) hh,h.len,h.hg.Q8 hk fun b hb=>Nat.lt_of_lt_of_le (h.at_ b hb) hh,h.at_⟩
theorem PG.below {w w':World} {x:PV} {q:Nat} {ts:List TV} {lo hi:Nat} {S:Nat->Prop} (h:PG w x q ts lo hi S) (hb:Below w.heap.size w w') (hh:hi<=w.heap.size):PG w' x q ts lo hi S :=
 ⟨h.rt.below hb,h.len,h.hg.keep fun b hS=>hb.block b (Nat.lt_of_lt_of_le (h.at_ b hS) hh),h.at_⟩
structure BG (w:World) (b base q lo hi l m:Nat):Prop where
 ex:∃ L M,L.length=l/\M.length=m/\BkS w b base q L M/\HG w lo (Bw lo hi) L M
 lq:l+m=q
 h1:lo<=hi
 h2:hi<=base
def BGs (b base q lo hi l m:Nat) (w:World) (e:Ending) (w':World):Prop:=(∃ r,e=.returned r)/\BG w' b base q lo hi l m/\QL base w w'
theorem BG.new (w:World) {lo:Nat} (h:lo<=w.heap.size):BG (w.alloc (.cells book0 53)) w.heap.size w.heap.size 0 lo lo 0 0 :=
 ⟨⟨[],[],rfl,rfl,BkS.new w,HG.nil _ _ _⟩,rfl,zj,h⟩
theorem BG.step {w w':World} {b base q q' lo hi lo' hi':Nat} {L M L2 M2:List HL} {e:Ending} (hG:HG w lo (Bw lo hi) L M) (g:HG w lo' (Bw lo' hi') L2 M2) (lq:L.length+M.length=q) (h1:lo<=hi) (h2:hi<=lo') (h3:lo'<=hi') (h4:hi'<=base) (hq:L2.length+M2.length+q=q') (h:Vl b base q' (L++L2) (M++M2) w e w') :
  BGs b base q' lo hi' (L.length+L2.length) (M.length+M2.length) w e w' :=
 ⟨h.1,⟨⟨L++L2,M++M2,List.length_append,List.length_append,h.2.1,(hG.app (g.mono (zm h1 h2)) (fun b hb=>⟨hb.1,by have:=hb.2;omega⟩) (fun b hb=>⟨by have:=hb.1;omega,hb.2⟩) (fun b hb hc=>by have:=hb.2;have:=hc.1;omega)).Q8 h.2.2 fun b hb=>Nat.lt_of_lt_of_le hb.2 h4⟩,by omega,by omega,h4⟩,h.2.2⟩
theorem BG.poly {w:World} {b base q lo hi l m:Nat} (h:BG w b base q lo hi l m) {x:PV} {ts:List TV} {lo' hi':Nat} (g:PG w x q ts lo' hi' (Bw lo' hi')) (h2:hi<=lo') (h3:lo'<=hi') (h4:hi'<=base) (hq:q+2*x.n<=29990) :
  Calls Tryz.prog 23 #[.pointer (some ⟨b,0,none⟩),x.v] w (BGs b base (q+2*x.n+1) lo hi' (l+2*x.n) (m+1) w):=by
 obtain⟨L,M,rfl,rfl,hs,hg⟩:=h.ex;have hl:=h.lq
 refine(hs.poly x ts g.rt g.len (fun p hp=>Nat.lt_of_lt_of_le (g.far p hp) h4) (by omega) (by omega) (by omega)).mono fun e w' hk=>?_
 have h5:=BG.step hg g.hg hl h.h1 h2 h3 h4 (q':=q+2*x.n+1) (by rw[Zl,g.len];simp;omega) hk;rw[Zl,g.len] at h5;exact h5
theorem BG.apart {w:World} {b base q lo hi l m:Nat} (h:BG w b base q lo hi l m) (h0:0<l) (h1:0<m) (hq:q<=30000) :
  Calls Tryz.prog 25 #[.pointer (some ⟨b,0,none⟩)] w fun e w'=>e=.returned (.bool true)/\Below lo w w':=by
 obtain⟨L,M,rfl,rfl,hs,hg⟩:=h.ex;have hl:=h.lq;exact hs.apartG hg h0 h1 (by omega) (by omega) (fun b hb=>⟨hb.1,Nat.lt_of_lt_of_le hb.2 h.h2⟩) (zm h.h1 h.h2)
theorem DP.pg {w:World} {lo:Nat} {x:PV} {P:List Tm} (h:DP w lo x P) (hl:∀ t∈P,LQ t.2 900000) (hn:P.length<=10000) {q:Nat} (hq:q+2*P.length<=30000):∃ ts,PG w x q ts lo w.heap.size (Bw lo w.heap.size):=by
 obtain⟨ts,h1,h2,h3,h4⟩:=DP.hg h hl hn hq;exact⟨ts,h1,h2,h4,fun b hb=>hb.2⟩
theorem Tw2.pg {w0 w:World} {lo:Nat} {y x:PV} (h:Tw2 w0 w lo y x) (hn:x.n<=10000) {q:Nat} (hq:q+2*x.n<=30000):∃ ts,PG w y q ts lo w.heap.size (Bw lo w.heap.size):=by
 obtain⟨ts,us,h1,h2,h3,h4⟩:=h;obtain⟨g1,g2,g3⟩:=TwP.hg h1 h4 (by omega) (q:=q) (by omega);exact⟨ts,g1,g2,g3,fun b hb=>hb.2⟩
structure GP (w:World) (x:PV) (q lo hi:Nat):Prop where
 ex:∃ ts,PG w x q ts lo hi (Bw lo hi)
 le:hi<=w.heap.size
 lh:lo<=hi
theorem GP.below {w w':World} {x:PV} {q lo hi:Nat} (h:GP w x q lo hi) (hb:Below w.heap.size w w'):GP w' x q lo hi:=by
 obtain⟨ts,g⟩:=h.ex;exact⟨⟨ts,g.below hb h.le⟩,zm h.le hb.size,h.lh⟩
theorem GP.Q8 {base:Nat} {w w':World} {x:PV} {q lo hi:Nat} (h:GP w x q lo hi) (hk:QL base w w') (hh:hi<=base):GP w' x q lo hi:=by
 obtain⟨ts,g⟩:=h.ex;exact⟨⟨ts,g.Q8 hk hh⟩,zm h.le hk.bel.size,h.lh⟩
theorem DP.gp {w:World} {lo:Nat} {x:PV} {P:List Tm} (h:DP w lo x P) (hl:∀ t∈P,LQ t.2 900000) (hn:P.length<=10000) (hw:lo<=w.heap.size) {q:Nat} (hq:q+2*P.length<=30000):GP w x q lo w.heap.size:=⟨DP.pg h hl hn hq,zj,hw⟩
theorem Tw2.gp {w0 w:World} {lo:Nat} {y x:PV} (h:Tw2 w0 w lo y x) (hn:x.n<=10000) (hw:lo<=w.heap.size) {q:Nat} (hq:q+2*x.n<=30000):GP w y q lo w.heap.size:=⟨Tw2.pg h hn hq,zj,hw⟩
theorem BG.jeb {w:World} {b base q lo hi l m:Nat} (h:BG w b base q lo hi l m) {x:PV} {lo' hi':Nat} (g:GP w x q lo' hi') (h2:hi<=lo') (h4:hi'<=base) (hq:q+2*x.n<=29990) :
  Calls Tryz.prog 23 #[.pointer (some ⟨b,0,none⟩),x.v] w (BGs b base (q+2*x.n+1) lo hi' (l+2*x.n) (m+1) w):=by
 obtain⟨ts,g1⟩:=g.ex;exact h.poly g1 h2 g.lh h4 hq
theorem BG.apartA {w:World} {b base q lo hi l m:Nat} (h:BG w b base q lo hi l m) (h1:0<m) (hq:q<=30000) :
  Calls Tryz.prog 25 #[.pointer (some ⟨b,0,none⟩)] w fun e w'=>e=.returned (.bool true)/\Below lo w w':=by
 by_cases h0:0<l
 ·exact h.apart h0 h1 hq
 ·classical
  obtain⟨L,M,rfl,rfl,hs,hg⟩:=h.ex;have hl:=h.lq;obtain rfl:L=[]:=List.length_eq_zero_iff.1 (by omega)
  have hT:∀ x:HL,∃ o,x∈M->J4 w lo x.a x.n x.c o:=fun x=>by
   by_cases hx:x∈M
   ·obtain⟨o,ho⟩:=(hg.row x hx).1;exact⟨o,fun _=>ho⟩
   ·exact⟨fun _=>.bool true,fun h=>absurd h hx⟩
  obtain⟨Ot,hT⟩:=Classical.axiomOfChoice hT
  exact hs.apart0 h1 (by omega) (fun x hx=>hg.nq x (List.mem_append_right _ hx)) Ot hT (fun x hx=>(hg.row x hx).2) (fun x hx p hp=>by
   have h9:=hg.at_ x (List.mem_append_right _ hx) p hp
   exact⟨h9.1,Nat.lt_of_lt_of_le h9.2 h.h2⟩) (zm h.h1 h.h2) hg.am
end Book
namespace Pol
open Go.RowKit Go.Sort Limb
theorem SA.lq {w:World} {x:PV} {P:List Tm} {ok:Bool} {n k e m:Nat} (h:SA w x P ok n k e) (hm:k<=m):∀ t∈P,LQ t.2 m:=fun t ht=>(h.b.lq zj t ht).up hm
theorem jfh {w:World} {x:PV} {P:List Tm} {ok:Bool} {n k e:Nat} (h:SA w x P ok n k e) (hk:k<=900000) :
  Calls Tryz.prog 12 #[x.v] w fun en w'=>∃ y:PV,en=.returned y.v/\y.n=x.n/\SA w' y P ok n k e/\Tw2 w w' w.heap.size y x/\Below w.heap.size w w':=by
 have hl:=h.le;have hb:=h.b;have hq:=h.lq hk
 rcases h.h with ⟨e1,hx⟩ | ⟨e1,hx,e2⟩
 ·exact(twin_k x P w hx hq hl).mono fun en w' ⟨y,g1,g2,g3,g4,g5⟩=>⟨y,g1,g2,⟨Or.inl ⟨e1,g3⟩,hb,by omega⟩,g4,g5⟩
 ·exact(twin_b x w hx hl).mono fun en w' ⟨y,g1,g2,g3,g4,g5⟩=>⟨y,g1,g2,⟨Or.inr ⟨e1,g3,e2⟩,hb,by omega⟩,g4,g5⟩
theorem check_sa {w:World} {x:PV} {P:List Tm} {ok:Bool} {n k e:Nat} (h:SA w x P ok n k e) (hk:k<=900000) :
  Calls Tryz.prog 53 #[x.v] w fun en w'=>en=.returned (.bool ok)/\Below w.heap.size w w':=by
 have hl:=h.le
 rcases h.h with ⟨rfl,hx⟩ | ⟨rfl,hx,-⟩
 ·exact Ya hx (h.lq hk) (by omega)
 ·exact Vu hx (by omega)
theorem jhl {w:World} {x:PV} {P:List Tm} {ok:Bool} {n k e:Nat} (h:SA w x P ok n k e) (hk:k<=900000) :
  Calls Tryz.prog 54 #[x.v] w fun en w'=>en=.returned (.bool ok)/\Below w.heap.size w w':=by
 have hl:=h.le
 rcases h.h with ⟨rfl,hx⟩ | ⟨rfl,hx,-⟩
 ·exact ZH hx (h.lq hk) (by omega)
 ·exact KC hx (by omega)
theorem jhm (x y:PV) (P Q:List Tm) (w:World) (hx:AP w x P) (hy:AP w y Q) (hp:∀ t∈P,LQ t.2 900000) (hq:∀ t∈Q,LQ t.2 900000) (hn:x.n<=1000000) (hm:y.n<=1000000) :
  Calls Tryz.prog 55 #[x.v,y.v] w fun e w'=>e=.returned (.bool (decide (P=Q)))/\Below w.heap.size w w':=by
 have O1:=qh (of_at hx zk hp (by omega));have HX:=qh hx;have HY:=qh hy;have HP:=qh hp;have HQ:=qh hq;have HN:=qh hn;have HM:=qh hm;obtain⟨xa,xn,xc⟩:=x;obtain⟨ya,yn,yc⟩:=y;change Calls Tryz.prog 55 #[.slice xa xn xc,.slice ya yn yc] w _;clear hx hy hp hq hn hm;go_enter Tryz.func55,Tryz.ntmps55;go_wp2_with fail
 with_reducible refine O1.o.mono ?_
 rintro e w1 ⟨⟨za,zn,zc⟩,he,hz,hzn,hb⟩;obtain rfl:e=.returned (.slice za zn zc):=he;have KG:=qh hb;have HZ:=qh hz;have HZN:=qh hzn;clear hb hz hzn O1;have O2:=qh (show Calls Tryz.prog 74 #[.slice ya yn yc] w1 _ from of_at (x:=⟨ya,yn,yc⟩) HY.o KG.o HQ.o (by have:=HM.o;show yn<=_;change yn<=_ at this;omega));go_wp2_with fail
 with_reducible refine O2.o.mono ?_
 rintro e w2 ⟨⟨ua,un,uc⟩,he,hu,hun,hb⟩;obtain rfl:e=.returned (.slice ua un uc):=he;have KG:=qk KG hb;have HU:=qh hu;clear hb hu hun O2;have ED:=qh (equal_d ⟨za,zn,zc⟩ ⟨ua,un,uc⟩ P Q w2 (HZ.o.below KG.o) (HU.o.below KG.o) HP.o HQ.o (by have h:=HZ.o.len;have:=HZN.o;have:=HN.o;change zn=_ at h;omega));go_wp2_with fail
 with_reducible refine ED.o.mono ?_
 rintro e w3 ⟨rfl,hb⟩;have KG:=qk KG hb;clear hb ED;go_wp2_with fail
 go_ret;exact⟨rfl,KG.o⟩
theorem both_mul {w:World} {x y:PV} {P Q:List Tm} {o1 o2:Bool} {n k e1 e2:Nat} (hx:SA w x P o1 n k e1) (hy:SA w y Q o2 n k e2) (hk:2*k+1<=200) (hn:n<=25) :
  ∃ (R:List Tm) (c:Int),(∀ t∈R,LQ t.2 6000)/\R.length<=625 /\
   (∀ (W:World) (a b:PV),SA W a P o1 n k e1->SA W b Q o2 n k e2->Calls Tryz.prog 51 #[a.v,b.v] W fun e w'=>∃ z:PV,e=.returned (.tuple #[z.v,.int .i64 c])/\DP w' W.heap.size z R/\Below W.heap.size W w') /\
   ∀ (W:World) (a b:PV),SA W a P o1 n k e1->SA W b Q o2 n k e2->Calls Tryz.prog 52 #[a.v,b.v] W fun e w'=>∃ z:PV,e=.returned (.tuple #[z.v,.int .i64 c])/\EP w' W.heap.size z R/\Below W.heap.size W w':=by
 have hpl:P.length<=25:=zm hx.b.b.len hn;have hql:Q.length<=25:=zm hy.b.b.len hn;have hpq:P.length*Q.length<=625:=Nat.mul_le_mul hpl hql
 rcases hx.h with ⟨rfl,kx⟩ | ⟨rfl,bx,rfl⟩
 ·rcases hy.h with ⟨rfl,ky⟩ | ⟨rfl,by_,rfl⟩
  ·have hkk:P.length*(k+k+1)<=5000:=by have:=Nat.mul_le_mul hpl (show k+k+1<=200 by omega);omega
   have hK:∀ {W:World} {a:PV} {P:List Tm} {n k e:Nat},SA W a P true n k e->KP W a P:=fun h=>by
    rcases h.h with ⟨-,h⟩ | ⟨h,-⟩
    ·exact h
    ·cases h
   by_cases ho:Ovf P Q
   ·refine⟨[],3,fun t ht=>(by cases ht),Nat.zero_le _,fun W a b ha hb=>?_,fun W a b ha hb=>?_⟩
    ·refine(mul_o a b P Q k k W (hK ha) (hK hb) (hx.lq zj) (hy.lq zj) (by omega) (by omega) (by omega) (by omega) (by omega)).mono fun e w' h=>?_
     rcases h with ⟨z,-,h,-⟩ | ⟨h1,-,h2⟩
     ·exact absurd ho h
     ·exact⟨⟨none,0,0⟩,h1,DP.none _ _,h2⟩
    ·refine(rmul_k a b P Q W (hK ha) (hK hb) (hx.lq (by omega)) (hy.lq (by omega)) (by omega) (by omega)).mono fun e w' h=>?_
     rcases h with ⟨z,-,h,-⟩ | ⟨h1,-,h2⟩
     ·exact absurd ho h
     ·exact⟨⟨none,0,0⟩,h1,EP.nil,h2⟩
   ·have hb:=hx.b.mul hy.b
    have hn2:n*(k+k+1)<=5000:=by have:=Nat.mul_le_mul hn (show k+k+1<=200 by omega);omega
    have hnn:n*n<=625:=Nat.mul_le_mul hn hn;refine⟨Xt P Q,0,hb.lq (by omega),zm hb.b.len hnn,fun W a b ha hb=>?_,fun W a b ha hb=>?_⟩
    ·refine(mul_o a b P Q k k W (hK ha) (hK hb) (hx.lq zj) (hy.lq zj) (by omega) (by omega) (by omega) (by omega) (by omega)).mono fun e w' h=>?_
     rcases h with ⟨z,h1,-,h2,h3⟩ | ⟨-,h,-⟩
     ·exact⟨z,h1,h2,h3⟩
     ·exact absurd h ho
    ·refine(rmul_k a b P Q W (hK ha) (hK hb) (hx.lq (by omega)) (hy.lq (by omega)) (by omega) (by omega)).mono fun e w' h=>?_
     rcases h with ⟨z,h1,-,h2,h3⟩ | ⟨-,h,-⟩
     ·exact⟨z,h1,h2,h3⟩
     ·exact absurd h ho
  ·refine⟨[],1,fun t ht=>(by cases ht),Nat.zero_le _,fun W a b ha hb=>?_,fun W a b ha hb=>?_⟩
   ·rcases ha.h with ⟨-,ka⟩ | ⟨h,-⟩
    ·rcases hb.h with ⟨h,-⟩ | ⟨-,kb,-⟩
     ·cases h
     ·exact(mul_b2 a b P W ka (ha.lq (by omega)) (by have:=ha.le;omega) kb (by have:=hb.le;omega)).mono fun e w' ⟨h1,h2⟩=>⟨⟨none,0,0⟩,h1,DP.none _ _,h2⟩
    ·cases h
   ·rcases ha.h with ⟨-,ka⟩ | ⟨h,-⟩
    ·rcases hb.h with ⟨h,-⟩ | ⟨-,kb,-⟩
     ·cases h
     ·exact(rmul_b a b W (Or.inr ⟨kb,P,ka,ha.lq (by omega)⟩) ha.le hb.le).mono fun e w' ⟨h1,h2⟩=>⟨⟨none,0,0⟩,h1,EP.nil,h2⟩
    ·cases h
 ·refine⟨[],1,fun t ht=>(by cases ht),Nat.zero_le _,fun W a b ha hb=>?_,fun W a b ha hb=>?_⟩
  ·rcases ha.h with ⟨h,-⟩ | ⟨-,ka,-⟩
   ·cases h
   ·exact(mul_b1 a b W ka (by have:=ha.le;omega)).mono fun e w' ⟨h1,h2⟩=>⟨⟨none,0,0⟩,h1,DP.none _ _,h2⟩
  ·rcases ha.h with ⟨h,-⟩ | ⟨-,ka,-⟩
   ·cases h
   ·exact(rmul_b a b W (Or.inl ka) ha.le hb.le).mono fun e w' ⟨h1,h2⟩=>⟨⟨none,0,0⟩,h1,EP.nil,h2⟩
open Book
theorem psame_r {b:Bool} {P Q:List Tm} (e:b=decide (P=Q)) (x y:PV) (w:World) (hx:AP w x P) (hy:AP w y Q) (hp:∀ t∈P,LQ t.2 900000) (hq:∀ t∈Q,LQ t.2 900000) (hn:x.n<=1000000) (hm:y.n<=1000000) :
  Calls Tryz.prog 55 #[x.v,y.v] w fun e w'=>e=.returned (.bool b)/\Below w.heap.size w w':=by rw[e];exact jhm x y P Q w hx hy hp hq hn hm
theorem rsame_r {b:Bool} {P Q:List Tm} (e:b=decide (P=Q)) (x y:PV) (w:World) (hx:AP w x P) (hy:AP w y Q) (hP:Canon P) (hc:Canon Q) (hp:∀ t∈P,LQ t.2 400000) (hq:∀ t∈Q,LQ t.2 400000) (hxn:x.n<=400000000) (hyn:y.n<=1000000) (hql:Q.length<=1000000) :
  Calls Tryz.prog 56 #[x.v,y.v] w fun e w'=>e=.returned (.bool b)/\Below w.heap.size w w':=by rw[e];exact jhk x y P Q w hx hy hP hc hp hq hxn hyn hql
theorem YU (x1:PV) (L1:List TO) (x2:PV) (L2:List TO) (w:World) (h1:Ki w x1 L1) (h2:Ki w x2 L2) :
  Calls Tryz.prog 8 #[.slice x1.a x1.n x1.c,.slice x2.a x2.n x2.c] w fun e w'=>e=.returned (.bool true)/\Below w.heap.size w w':=by
 have KG:=qh (Below.refl w.heap.size w);have N1:=qh h1;have N2:=qh h2;clear h1 h2;go_enter Tryz.func8,Tryz.ntmps8;go_wp2_with fail
 obtain⟨w1,hV⟩:∃ V,V=w.alloc (.cells #[.slice x1.a x1.n x1.c,.slice x2.a x2.n x2.c] 23):=⟨_,rfl⟩
 have hb:Below w.heap.size w w1:=by rw[hV];exact zk.alloc zj _
 have BXG:=qh (show Bxs w1 w.heap.size 23 [.slice x1.a x1.n x1.c,.slice x2.a x2.n x2.c] by rw[hV];exact Bxs.new w 23 [.slice x1.a x1.n x1.c,.slice x2.a x2.n x2.c]);rw[<- hV];have KG:=qk KG hb;clear hV hb;have CT:=qh (show Calls Tryz.prog 10 #[.int .i64 25,.slice (some ⟨w.heap.size,0,none⟩) 2 2] w1 _ from great2P (m:=25) BXG.o (N1.o.below KG.o) (N2.o.below KG.o) (by decide));with_reducible refine CT.o.mono ?_
 rintro e w2 ⟨gb,rfl,hn,hb⟩;clear CT BXG;have KG:=qk KG hb;clear hb
 rcases Bool.eq_false_or_eq_true gb with rfl | rfl
 ·clear hn;go_wp2_with fail
  go_ret;exact⟨rfl,KG.o⟩
 have GX:=qh (hn rfl);clear hn;obtain⟨P1,ok1,hsa⟩:=sa_of (E:=65535) N1.o GX.o.1 (fun e he=>N1.o.2.2.2.2 e he) (by decide);have HXN1:=qh (show x1.n<=25 from by have h1:=(GX.o.1).1;have h2:=N1.o.2.1;rw[List.length_map] at h1;omega);have HPC1:=qh hsa.b;have HA1:=qh (hsa.below KG.o);clear hsa;obtain⟨P2,ok2,hsa⟩:=sa_of (E:=65535) N2.o GX.o.2 (fun e he=>N2.o.2.2.2.2 e he) (by decide);have HXN2:=qh (show x2.n<=25 from by have h1:=(GX.o.2).1;have h2:=N2.o.2.1;rw[List.length_map] at h1;omega);have HPC2:=qh hsa.b;have HA2:=qh (hsa.below KG.o);clear hsa;obtain⟨R,c,hrq,hrn,hmo,hmr⟩:=both_mul HA1.o HA2.o (by decide) (by decide);have RQ:=qh hrq;have RN:=qh hrn;have MO:=qh hmo;have MR:=qh hmr;obtain⟨sm,hsm⟩:∃ b,b=decide (P1=P2):=⟨_,rfl⟩;have SM:=qh hsm;clear hrq hrn hmo hmr hsm N1 N2 GX;have W1:=qh (show Bt w2 w2 from⟨zk⟩);have IG1:=qh (KG.o.size);have CT:=qh (show Calls Tryz.prog 12 #[.slice x1.a x1.n x1.c] w2 _ from jfh HA1.o (by decide));go_wp2_with fail
 with_reducible refine CT.o.mono ?_
 rintro e w3 ⟨y1,rfl,hyn,hya,htw,hb⟩;clear CT;have KG:=qk KG hb;have HA1:=qh (HA1.o.below hb);have HA2:=qh (HA2.o.below hb);have W1:=qh (W1.o.below hb);have HYN1:=qh hyn;have HY1:=qh hya;have HT1:=qh htw;clear hyn hya;have G1:=qh (show GP w3 y1 (0) w2.heap.size w3.heap.size from Tw2.gp htw (by have:=HXN1.o;have:=HXN2.o;omega) hb.size (by have:=HXN1.o;have:=HXN2.o;omega));clear hb;clear htw;have W2:=qh (show Bt w3 w3 from⟨zk⟩);have IG2:=qh (G1.o.le);have CT:=qh (show Calls Tryz.prog 12 #[.slice x2.a x2.n x2.c] w3 _ from jfh HA2.o (by decide));go_wp2_with fail
 with_reducible refine CT.o.mono ?_
 rintro e w4 ⟨y2,rfl,hyn,hya,htw,hb⟩;clear CT;have KG:=qk KG hb;have HA1:=qh (HA1.o.below hb);have HA2:=qh (HA2.o.below hb);have W1:=qh (W1.o.below hb);have G1:=qh (G1.o.below hb);have HY1:=qh (HY1.o.below hb);have HT1:=qh (HT1.o.below hb);have W2:=qh (W2.o.below hb);have HYN2:=qh hyn;have HY2:=qh hya;have HT2:=qh htw;clear hyn hya;have G2:=qh (show GP w4 y2 (0+2*y1.n+1) w3.heap.size w4.heap.size from Tw2.gp htw (by have:=HXN1.o;have:=HXN2.o;have:=HYN1.o;omega) hb.size (by have:=HXN1.o;have:=HXN2.o;have:=HYN1.o;omega));clear hb;clear htw;have C1:=qh HPC1.o.c;have C2:=qh HPC2.o.c;have PL1:=qh HPC1.o.b.len;have PL2:=qh HPC2.o.b.len;have HPA:=qh (PC.add HPC1.o HPC2.o 4 65535 (by decide) (by decide) (by decide) (by decide));have HPS:=qh (PC.sub HPC1.o HPC2.o 7 65535 (by decide) (by decide) (by decide) (by decide));have Qz1:=qh (show ∀ t∈(Qf P1 P2),LQ t.2 900000 from HPA.o.lq (by decide));have Lz1:=qh (show(Qf P1 P2).length<=50 from HPA.o.b.len);have IG3:=qh (G2.o.le);have CT:=qh (show Calls Tryz.prog 49 #[.slice y1.a y1.n y1.c,.slice y2.a y2.n y2.c] w4 _ from Va y1 y2 P1 P2 4 _ HY1.o.ap HY2.o.ap HY1.o.le HY2.o.le (HY1.o.lq (by decide)) (HY2.o.lq (by decide)) (by decide) (by have:=PL1.o;have:=PL2.o;omega));go_wp2_with fail
 with_reducible refine CT.o.mono ?_
 rintro e w5 ⟨z1,rfl,hz,hb⟩;clear CT;have KG:=qk KG hb;have HA1:=qh (HA1.o.below hb);have HA2:=qh (HA2.o.below hb);have W1:=qh (W1.o.below hb);have G1:=qh (G1.o.below hb);have HY1:=qh (HY1.o.below hb);have HT1:=qh (HT1.o.below hb);have W2:=qh (W2.o.below hb);have G2:=qh (G2.o.below hb);have HY2:=qh (HY2.o.below hb);have HT2:=qh (HT2.o.below hb);have Dz1:=qh hz;have HNz1:=qh hz.k.len;have G3:=qh (show GP w5 z1 (0+2*y1.n+1+2*y2.n+1) w4.heap.size w5.heap.size from DP.gp hz Qz1.o (by have:=HXN1.o;have:=HXN2.o;have:=HYN1.o;have:=HYN2.o;have:=Lz1.o;omega) hb.size (by have:=hz.k.len;have:=HXN1.o;have:=HXN2.o;have:=HYN1.o;have:=HYN2.o;have:=Lz1.o;omega));clear hb;clear hz;have Qz2:=qh (show ∀ t∈(VX P1 P2),LQ t.2 900000 from HPS.o.lq (by decide));have Lz2:=qh (show(VX P1 P2).length<=50 from HPS.o.b.len);have IG4:=qh (G3.o.le);have CT:=qh (show Calls Tryz.prog 50 #[.slice y1.a y1.n y1.c,.slice y2.a y2.n y2.c] w5 _ from psub_any y1 y2 P1 P2 4 25 _ HY1.o.ap HY2.o.ap HY1.o.le HY2.o.le (HY1.o.lq (by decide)) HPC2.o.b (by decide) (by decide) (by have:=PL1.o;omega));go_wp2_with fail
 with_reducible refine CT.o.mono ?_
 rintro e w6 ⟨z2,rfl,hz,hb⟩;clear CT;have KG:=qk KG hb;have HA1:=qh (HA1.o.below hb);have HA2:=qh (HA2.o.below hb);have W1:=qh (W1.o.below hb);have G1:=qh (G1.o.below hb);have HY1:=qh (HY1.o.below hb);have HT1:=qh (HT1.o.below hb);have W2:=qh (W2.o.below hb);have G2:=qh (G2.o.below hb);have HY2:=qh (HY2.o.below hb);have HT2:=qh (HT2.o.below hb);have G3:=qh (G3.o.below hb);have Dz1:=qh (Dz1.o.below hb);have Dz2:=qh hz;have HNz2:=qh hz.k.len;have G4:=qh (show GP w6 z2 (0+2*y1.n+1+2*y2.n+1+2*z1.n+1) w5.heap.size w6.heap.size from DP.gp hz Qz2.o (by have:=HXN1.o;have:=HXN2.o;have:=HYN1.o;have:=HYN2.o;have:=Lz1.o;have:=HNz1.o;have:=Lz2.o;omega) hb.size (by have:=hz.k.len;have:=HXN1.o;have:=HXN2.o;have:=HYN1.o;have:=HYN2.o;have:=Lz1.o;have:=HNz1.o;have:=Lz2.o;omega));clear hb;clear hz;have Qz3:=qh (show ∀ t∈R,LQ t.2 900000 from fun t ht=>(RQ.o t ht).up (by decide));have Lz3:=qh (show R.length<=625 from RN.o);have IG5:=qh (G4.o.le);have CT:=qh (show Calls Tryz.prog 51 #[.slice y1.a y1.n y1.c,.slice y2.a y2.n y2.c] w6 _ from MO.o _ y1 y2 HY1.o HY2.o);go_wp2_with fail
 with_reducible refine CT.o.mono ?_
 rintro e w7 ⟨z3,rfl,hz,hb⟩;clear CT;have KG:=qk KG hb;have HA1:=qh (HA1.o.below hb);have HA2:=qh (HA2.o.below hb);have W1:=qh (W1.o.below hb);have G1:=qh (G1.o.below hb);have HY1:=qh (HY1.o.below hb);have HT1:=qh (HT1.o.below hb);have W2:=qh (W2.o.below hb);have G2:=qh (G2.o.below hb);have HY2:=qh (HY2.o.below hb);have HT2:=qh (HT2.o.below hb);have G3:=qh (G3.o.below hb);have Dz1:=qh (Dz1.o.below hb);have G4:=qh (G4.o.below hb);have Dz2:=qh (Dz2.o.below hb);have Dz3:=qh hz;have HNz3:=qh hz.k.len;have G5:=qh (show GP w7 z3 (0+2*y1.n+1+2*y2.n+1+2*z1.n+1+2*z2.n+1) w6.heap.size w7.heap.size from DP.gp hz Qz3.o (by have:=HXN1.o;have:=HXN2.o;have:=HYN1.o;have:=HYN2.o;have:=Lz1.o;have:=HNz1.o;have:=Lz2.o;have:=HNz2.o;have:=Lz3.o;omega) hb.size (by have:=hz.k.len;have:=HXN1.o;have:=HXN2.o;have:=HYN1.o;have:=HYN2.o;have:=Lz1.o;have:=HNz1.o;have:=Lz2.o;have:=HNz2.o;have:=Lz3.o;omega));clear hb;clear hz;have CT:=qh (show Calls Tryz.prog 52 #[.slice x1.a x1.n x1.c,.slice x2.a x2.n x2.c] w7 _ from MR.o _ x1 x2 HA1.o HA2.o);go_wp2_with fail
 with_reducible refine CT.o.mono ?_
 rintro e w8 ⟨u3,rfl,hu,hb⟩;clear CT;have KG:=qk KG hb;have HA1:=qh (HA1.o.below hb);have HA2:=qh (HA2.o.below hb);have W1:=qh (W1.o.below hb);have G1:=qh (G1.o.below hb);have HY1:=qh (HY1.o.below hb);have HT1:=qh (HT1.o.below hb);have W2:=qh (W2.o.below hb);have G2:=qh (G2.o.below hb);have HY2:=qh (HY2.o.below hb);have HT2:=qh (HT2.o.below hb);have G3:=qh (G3.o.below hb);have Dz1:=qh (Dz1.o.below hb);have G4:=qh (G4.o.below hb);have Dz2:=qh (Dz2.o.below hb);have G5:=qh (G5.o.below hb);have Dz3:=qh (Dz3.o.below hb);have Eu3:=qh hu.k;clear hu;clear hb
 have e1:(ok1 != ok1)=false:=by cases ok1 <;> rfl
 have e2:(sm != sm)=false:=by cases sm <;> rfl
 have e3:(c != c)=false:=by simp
 have CT:=qh (show Calls Tryz.prog 53 #[.slice y1.a y1.n y1.c] w8 _ from check_sa HY1.o (by decide));go_wp2_with fail
 with_reducible refine CT.o.mono ?_
 rintro e w9 ⟨rfl,hb⟩;clear CT;have KG:=qk KG hb;have HA1:=qh (HA1.o.below hb);have HA2:=qh (HA2.o.below hb);have W1:=qh (W1.o.below hb);have G1:=qh (G1.o.below hb);have HY1:=qh (HY1.o.below hb);have HT1:=qh (HT1.o.below hb);have W2:=qh (W2.o.below hb);have G2:=qh (G2.o.below hb);have HY2:=qh (HY2.o.below hb);have HT2:=qh (HT2.o.below hb);have G3:=qh (G3.o.below hb);have Dz1:=qh (Dz1.o.below hb);have G4:=qh (G4.o.below hb);have Dz2:=qh (Dz2.o.below hb);have G5:=qh (G5.o.below hb);have Dz3:=qh (Dz3.o.below hb);have Eu3:=qh (Eu3.o.below hb);clear hb;have CT:=qh (show Calls Tryz.prog 54 #[.slice x1.a x1.n x1.c] w9 _ from jhl HA1.o (by decide));go_wp2_with fail
 with_reducible refine CT.o.mono ?_
 rintro e w10 ⟨rfl,hb⟩;clear CT;have KG:=qk KG hb;have HA1:=qh (HA1.o.below hb);have HA2:=qh (HA2.o.below hb);have W1:=qh (W1.o.below hb);have G1:=qh (G1.o.below hb);have HY1:=qh (HY1.o.below hb);have HT1:=qh (HT1.o.below hb);have W2:=qh (W2.o.below hb);have G2:=qh (G2.o.below hb);have HY2:=qh (HY2.o.below hb);have HT2:=qh (HT2.o.below hb);have G3:=qh (G3.o.below hb);have Dz1:=qh (Dz1.o.below hb);have G4:=qh (G4.o.below hb);have Dz2:=qh (Dz2.o.below hb);have G5:=qh (G5.o.below hb);have Dz3:=qh (Dz3.o.below hb);have Eu3:=qh (Eu3.o.below hb);clear hb;have CT:=qh (show Calls Tryz.prog 55 #[.slice y1.a y1.n y1.c,.slice y2.a y2.n y2.c] w10 _ from psame_r SM.o y1 y2 _ HY1.o.ap HY2.o.ap (HY1.o.lq (by decide)) (HY2.o.lq (by decide)) HY1.o.le HY2.o.le);go_wp2_with fail
 with_reducible refine CT.o.mono ?_
 rintro e w11 ⟨rfl,hb⟩;clear CT;have KG:=qk KG hb;have HA1:=qh (HA1.o.below hb);have HA2:=qh (HA2.o.below hb);have W1:=qh (W1.o.below hb);have G1:=qh (G1.o.below hb);have HY1:=qh (HY1.o.below hb);have HT1:=qh (HT1.o.below hb);have W2:=qh (W2.o.below hb);have G2:=qh (G2.o.below hb);have HY2:=qh (HY2.o.below hb);have HT2:=qh (HT2.o.below hb);have G3:=qh (G3.o.below hb);have Dz1:=qh (Dz1.o.below hb);have G4:=qh (G4.o.below hb);have Dz2:=qh (Dz2.o.below hb);have G5:=qh (G5.o.below hb);have Dz3:=qh (Dz3.o.below hb);have Eu3:=qh (Eu3.o.below hb);clear hb;have CT:=qh (show Calls Tryz.prog 56 #[.slice x1.a x1.n x1.c,.slice x2.a x2.n x2.c] w11 _ from rsame_r SM.o x1 x2 _ HA1.o.ap HA2.o.ap C1.o C2.o (HA1.o.lq (by decide)) (HA2.o.lq (by decide)) (by have:=HXN1.o;omega) (by have:=HXN2.o;omega) (by have:=PL2.o;omega));go_wp2_with fail
 with_reducible refine CT.o.mono ?_
 rintro e w12 ⟨rfl,hb⟩;clear CT;have KG:=qk KG hb;have HA1:=qh (HA1.o.below hb);have HA2:=qh (HA2.o.below hb);have W1:=qh (W1.o.below hb);have G1:=qh (G1.o.below hb);have HY1:=qh (HY1.o.below hb);have HT1:=qh (HT1.o.below hb);have W2:=qh (W2.o.below hb);have G2:=qh (G2.o.below hb);have HY2:=qh (HY2.o.below hb);have HT2:=qh (HT2.o.below hb);have G3:=qh (G3.o.below hb);have Dz1:=qh (Dz1.o.below hb);have G4:=qh (G4.o.below hb);have Dz2:=qh (Dz2.o.below hb);have G5:=qh (G5.o.below hb);have Dz3:=qh (Dz3.o.below hb);have Eu3:=qh (Eu3.o.below hb);clear hb;have CT:=qh (show Calls Tryz.prog 57 #[.slice x1.a x1.n x1.c,.slice x2.a x2.n x2.c] w12 _ from Xn x1 x2 P1 P2 _ HA1.o.ap HA2.o.ap (HA1.o.lq (by decide)) (HA2.o.lq (by decide)) (by have:=HXN1.o;omega) (by have:=HXN2.o;omega));go_wp2_with fail
 with_reducible refine CT.o.mono ?_
 rintro e w13 ⟨u1,rfl,hu,hb⟩;clear CT;have KG:=qk KG hb;have HA1:=qh (HA1.o.below hb);have HA2:=qh (HA2.o.below hb);have W1:=qh (W1.o.below hb);have G1:=qh (G1.o.below hb);have HY1:=qh (HY1.o.below hb);have HT1:=qh (HT1.o.below hb);have W2:=qh (W2.o.below hb);have G2:=qh (G2.o.below hb);have HY2:=qh (HY2.o.below hb);have HT2:=qh (HT2.o.below hb);have G3:=qh (G3.o.below hb);have Dz1:=qh (Dz1.o.below hb);have G4:=qh (G4.o.below hb);have Dz2:=qh (Dz2.o.below hb);have G5:=qh (G5.o.below hb);have Dz3:=qh (Dz3.o.below hb);have Eu3:=qh (Eu3.o.below hb);have Eu1:=qh hu.k;clear hu;clear hb;have CT:=qh (show Calls Tryz.prog 18 #[.slice z1.a z1.n z1.c,.slice u1.a u1.n u1.c] w13 _ from jeg z1 u1 _ w13 Dz1.o.k Eu1.o Qz1.o (by have:=Lz1.o;omega));go_wp2_with fail
 with_reducible refine CT.o.mono ?_
 rintro e w14 ⟨rfl,hb⟩;clear CT;have KG:=qk KG hb;have HA1:=qh (HA1.o.below hb);have HA2:=qh (HA2.o.below hb);have W1:=qh (W1.o.below hb);have G1:=qh (G1.o.below hb);have HY1:=qh (HY1.o.below hb);have HT1:=qh (HT1.o.below hb);have W2:=qh (W2.o.below hb);have G2:=qh (G2.o.below hb);have HY2:=qh (HY2.o.below hb);have HT2:=qh (HT2.o.below hb);have G3:=qh (G3.o.below hb);have Dz1:=qh (Dz1.o.below hb);have G4:=qh (G4.o.below hb);have Dz2:=qh (Dz2.o.below hb);have G5:=qh (G5.o.below hb);have Dz3:=qh (Dz3.o.below hb);have Eu3:=qh (Eu3.o.below hb);have Eu1:=qh (Eu1.o.below hb);clear hb;have CT:=qh (show Calls Tryz.prog 58 #[.slice x1.a x1.n x1.c,.slice x2.a x2.n x2.c] w14 _ from ZA x1 x2 P1 P2 _ HA1.o.ap HA2.o.ap C2.o (HA1.o.lq (by decide)) (HA2.o.lq (by decide)) (by have:=HXN1.o;omega) (by have:=HXN2.o;omega) (by have:=PL2.o;omega));go_wp2_with fail
 with_reducible refine CT.o.mono ?_
 rintro e w15 ⟨u2,rfl,hu,hb⟩;clear CT;have KG:=qk KG hb;have HA1:=qh (HA1.o.below hb);have HA2:=qh (HA2.o.below hb);have W1:=qh (W1.o.below hb);have G1:=qh (G1.o.below hb);have HY1:=qh (HY1.o.below hb);have HT1:=qh (HT1.o.below hb);have W2:=qh (W2.o.below hb);have G2:=qh (G2.o.below hb);have HY2:=qh (HY2.o.below hb);have HT2:=qh (HT2.o.below hb);have G3:=qh (G3.o.below hb);have Dz1:=qh (Dz1.o.below hb);have G4:=qh (G4.o.below hb);have Dz2:=qh (Dz2.o.below hb);have G5:=qh (G5.o.below hb);have Dz3:=qh (Dz3.o.below hb);have Eu3:=qh (Eu3.o.below hb);have Eu1:=qh (Eu1.o.below hb);have Eu2:=qh hu.k;clear hu;clear hb;have CT:=qh (show Calls Tryz.prog 18 #[.slice z2.a z2.n z2.c,.slice u2.a u2.n u2.c] w15 _ from jeg z2 u2 _ w15 Dz2.o.k Eu2.o Qz2.o (by have:=Lz2.o;omega));go_wp2_with fail
 with_reducible refine CT.o.mono ?_
 rintro e w16 ⟨rfl,hb⟩;clear CT;have KG:=qk KG hb;have HA1:=qh (HA1.o.below hb);have HA2:=qh (HA2.o.below hb);have W1:=qh (W1.o.below hb);have G1:=qh (G1.o.below hb);have HY1:=qh (HY1.o.below hb);have HT1:=qh (HT1.o.below hb);have W2:=qh (W2.o.below hb);have G2:=qh (G2.o.below hb);have HY2:=qh (HY2.o.below hb);have HT2:=qh (HT2.o.below hb);have G3:=qh (G3.o.below hb);have Dz1:=qh (Dz1.o.below hb);have G4:=qh (G4.o.below hb);have Dz2:=qh (Dz2.o.below hb);have G5:=qh (G5.o.below hb);have Dz3:=qh (Dz3.o.below hb);have Eu3:=qh (Eu3.o.below hb);have Eu1:=qh (Eu1.o.below hb);have Eu2:=qh (Eu2.o.below hb);clear hb;have CT:=qh (show Calls Tryz.prog 18 #[.slice z3.a z3.n z3.c,.slice u3.a u3.n u3.c] w16 _ from jeg z3 u3 _ w16 Dz3.o.k Eu3.o Qz3.o (by have:=Lz3.o;omega));go_wp2_with fail
 with_reducible refine CT.o.mono ?_
 rintro e w17 ⟨rfl,hb⟩;clear CT;have KG:=qk KG hb;have HA1:=qh (HA1.o.below hb);have HA2:=qh (HA2.o.below hb);have W1:=qh (W1.o.below hb);have G1:=qh (G1.o.below hb);have HY1:=qh (HY1.o.below hb);have HT1:=qh (HT1.o.below hb);have W2:=qh (W2.o.below hb);have G2:=qh (G2.o.below hb);have HY2:=qh (HY2.o.below hb);have HT2:=qh (HT2.o.below hb);have G3:=qh (G3.o.below hb);have Dz1:=qh (Dz1.o.below hb);have G4:=qh (G4.o.below hb);have Dz2:=qh (Dz2.o.below hb);have G5:=qh (G5.o.below hb);have Dz3:=qh (Dz3.o.below hb);have Eu3:=qh (Eu3.o.below hb);have Eu1:=qh (Eu1.o.below hb);have Eu2:=qh (Eu2.o.below hb);clear hb;have CT:=qh (show Calls Tryz.prog 21 #[.slice y1.a y1.n y1.c,.slice x1.a x1.n x1.c] w17 _ from HT1.o.left W1.o.b (by have:=HXN1.o;omega));go_wp2_with fail
 with_reducible refine CT.o.mono ?_
 rintro e w18 ⟨rfl,hb⟩;clear CT;have KG:=qk KG hb;have HA1:=qh (HA1.o.below hb);have HA2:=qh (HA2.o.below hb);have W1:=qh (W1.o.below hb);have G1:=qh (G1.o.below hb);have HY1:=qh (HY1.o.below hb);have HT1:=qh (HT1.o.below hb);have W2:=qh (W2.o.below hb);have G2:=qh (G2.o.below hb);have HY2:=qh (HY2.o.below hb);have HT2:=qh (HT2.o.below hb);have G3:=qh (G3.o.below hb);have Dz1:=qh (Dz1.o.below hb);have G4:=qh (G4.o.below hb);have Dz2:=qh (Dz2.o.below hb);have G5:=qh (G5.o.below hb);have Dz3:=qh (Dz3.o.below hb);have Eu3:=qh (Eu3.o.below hb);have Eu1:=qh (Eu1.o.below hb);have Eu2:=qh (Eu2.o.below hb);clear hb;have CT:=qh (show Calls Tryz.prog 21 #[.slice y2.a y2.n y2.c,.slice x2.a x2.n x2.c] w18 _ from HT2.o.left W2.o.b (by have:=HXN2.o;omega));go_wp2_with fail
 with_reducible refine CT.o.mono ?_
 rintro e w19 ⟨rfl,hb⟩;clear CT;have KG:=qk KG hb;have HA1:=qh (HA1.o.below hb);have HA2:=qh (HA2.o.below hb);have W1:=qh (W1.o.below hb);have G1:=qh (G1.o.below hb);have HY1:=qh (HY1.o.below hb);have HT1:=qh (HT1.o.below hb);have W2:=qh (W2.o.below hb);have G2:=qh (G2.o.below hb);have HY2:=qh (HY2.o.below hb);have HT2:=qh (HT2.o.below hb);have G3:=qh (G3.o.below hb);have Dz1:=qh (Dz1.o.below hb);have G4:=qh (G4.o.below hb);have Dz2:=qh (Dz2.o.below hb);have G5:=qh (G5.o.below hb);have Dz3:=qh (Dz3.o.below hb);have Eu3:=qh (Eu3.o.below hb);have Eu1:=qh (Eu1.o.below hb);have Eu2:=qh (Eu2.o.below hb);clear hb;clear Dz1 Dz2 Dz3 Eu1 Eu2 Eu3 HT1 HT2 HA1 HA2 HY1 HY2 W1 W2;have HKW:=qh (show w.heap.size<=w19.heap.size from KG.o.size);have JG1:=qh G1.o.le;have JG2:=qh G2.o.le;have JG3:=qh G3.o.le;have JG4:=qh G4.o.le;have JG5:=qh G5.o.le
 go_upto_region 12 with (fail)
 obtain⟨w20,hV⟩:∃ V,V=w19.alloc (.cells book0 53):=⟨_,rfl⟩
 have hb:Below w19.heap.size w19 w20:=by rw[hV];exact zk.alloc zj _
 have HB:=qh (show BG w20 w19.heap.size w19.heap.size 0 w.heap.size w.heap.size 0 0 by rw[hV];exact BG.new w19 KG.o.size);rw[show w19.alloc (.cells #[.int .i64 0,.slice none 0 0,.slice none 0 0,.slice none 0 0,.slice none 0 0,.slice none 0 0,.slice none 0 0,.slice none 0 0,.slice none 0 0,.slice none 0 0,.slice none 0 0,.slice none 0 0,.slice none 0 0] 53)=w20 from hV.symm];have KG:=qk KG hb;have G1:=qh (G1.o.below hb);have G2:=qh (G2.o.below hb);have G3:=qh (G3.o.below hb);have G4:=qh (G4.o.below hb);have G5:=qh (G5.o.below hb);obtain⟨bs,hbs⟩:∃ b,b=w19.heap.size:=⟨_,rfl⟩;rw[<- hbs] at JG1;rw[<- hbs] at JG2;rw[<- hbs] at JG3;rw[<- hbs] at JG4;rw[<- hbs] at JG5;have HBW:=qh (show w.heap.size<=bs by rw[hbs];exact(show w.heap.size<=w19.heap.size from HKW.o));rw[<- hbs] at HB ⊢;clear hbs hV hb HKW;have CT:=qh (show Calls Tryz.prog 23 #[.pointer (some ⟨bs,0,none⟩),.slice y1.a y1.n y1.c] w20 _ from HB.o.jeb G1.o IG1.o JG1.o (by have:=HXN1.o;have:=HXN2.o;have:=HYN1.o;have:=HYN2.o;have:=Lz1.o;have:=HNz1.o;have:=Lz2.o;have:=HNz2.o;have:=Lz3.o;have:=HNz3.o;omega));go_wp2_with fail
 with_reducible refine CT.o.mono ?_
 rintro e w21 ⟨⟨r,rfl⟩,hB,hk⟩;have HB:=qh hB;have KG:=qh (KG.o.trans (hk.bel.mono HBW.o));have G2:=qh (G2.o.Q8 hk JG2.o);have G3:=qh (G3.o.Q8 hk JG3.o);have G4:=qh (G4.o.Q8 hk JG4.o);have G5:=qh (G5.o.Q8 hk JG5.o);clear CT hB hk G1 IG1;have CT:=qh (show Calls Tryz.prog 23 #[.pointer (some ⟨bs,0,none⟩),.slice y2.a y2.n y2.c] w21 _ from HB.o.jeb G2.o IG2.o JG2.o (by have:=HXN1.o;have:=HXN2.o;have:=HYN1.o;have:=HYN2.o;have:=Lz1.o;have:=HNz1.o;have:=Lz2.o;have:=HNz2.o;have:=Lz3.o;have:=HNz3.o;omega));go_wp2_with fail
 with_reducible refine CT.o.mono ?_
 rintro e w22 ⟨⟨r,rfl⟩,hB,hk⟩;have HB:=qh hB;have KG:=qh (KG.o.trans (hk.bel.mono HBW.o));have G3:=qh (G3.o.Q8 hk JG3.o);have G4:=qh (G4.o.Q8 hk JG4.o);have G5:=qh (G5.o.Q8 hk JG5.o);clear CT hB hk G2 IG2;have CT:=qh (show Calls Tryz.prog 23 #[.pointer (some ⟨bs,0,none⟩),.slice z1.a z1.n z1.c] w22 _ from HB.o.jeb G3.o IG3.o JG3.o (by have:=HXN1.o;have:=HXN2.o;have:=HYN1.o;have:=HYN2.o;have:=Lz1.o;have:=HNz1.o;have:=Lz2.o;have:=HNz2.o;have:=Lz3.o;have:=HNz3.o;omega));go_wp2_with fail
 with_reducible refine CT.o.mono ?_
 rintro e w23 ⟨⟨r,rfl⟩,hB,hk⟩;have HB:=qh hB;have KG:=qh (KG.o.trans (hk.bel.mono HBW.o));have G4:=qh (G4.o.Q8 hk JG4.o);have G5:=qh (G5.o.Q8 hk JG5.o);clear CT hB hk G3 IG3;have CT:=qh (show Calls Tryz.prog 23 #[.pointer (some ⟨bs,0,none⟩),.slice z2.a z2.n z2.c] w23 _ from HB.o.jeb G4.o IG4.o JG4.o (by have:=HXN1.o;have:=HXN2.o;have:=HYN1.o;have:=HYN2.o;have:=Lz1.o;have:=HNz1.o;have:=Lz2.o;have:=HNz2.o;have:=Lz3.o;have:=HNz3.o;omega));go_wp2_with fail
 with_reducible refine CT.o.mono ?_
 rintro e w24 ⟨⟨r,rfl⟩,hB,hk⟩;have HB:=qh hB;have KG:=qh (KG.o.trans (hk.bel.mono HBW.o));have G5:=qh (G5.o.Q8 hk JG5.o);clear CT hB hk G4 IG4;have CT:=qh (show Calls Tryz.prog 23 #[.pointer (some ⟨bs,0,none⟩),.slice z3.a z3.n z3.c] w24 _ from HB.o.jeb G5.o IG5.o JG5.o (by have:=HXN1.o;have:=HXN2.o;have:=HYN1.o;have:=HYN2.o;have:=Lz1.o;have:=HNz1.o;have:=Lz2.o;have:=HNz2.o;have:=Lz3.o;have:=HNz3.o;omega));go_wp2_with fail
 with_reducible refine CT.o.mono ?_
 rintro e w25 ⟨⟨r,rfl⟩,hB,hk⟩;have HB:=qh hB;have KG:=qh (KG.o.trans (hk.bel.mono HBW.o));clear CT hB hk G5 IG5;have CT:=qh (show Calls Tryz.prog 25 #[.pointer (some ⟨bs,0,none⟩)] w25 _ from HB.o.apartA (by omega) (by have:=HXN1.o;have:=HXN2.o;have:=HYN1.o;have:=HYN2.o;have:=Lz1.o;have:=HNz1.o;have:=Lz2.o;have:=HNz2.o;have:=Lz3.o;have:=HNz3.o;omega));go_wp2_with fail
 with_reducible refine CT.o.mono ?_
 rintro e w26 ⟨rfl,hb⟩;go_wp2_with fail
 go_ret;exact⟨rfl,KG.o.trans hb⟩
end Pol
namespace Limb
open Go.RowKit Go.Sort Pol
open Go.ChangeShapes Go.WideShapes Go.ChangeAt
namespace PolysPairsC
theorem own:ownKnob Tryz.prog.godebug=none:=by kernel_rfl
theorem laidOut:laidOutB Tryz.prog=true:=by kernel_rfl
noncomputable def Yr (os:Os):World :=
 { World.holding Tryz.prog os ⟨#[],#[],[]⟩ with heap:=((((World.holding Tryz.prog os ⟨#[],#[],[]⟩).heap.modify 0 fun
   | .cells _ t frozen=>.cells #[.int .u64 1,.int .u64 10,.int .u64 100,.int .u64 1000,.int .u64 10000,.int .u64 100000,.int .u64 1000000,.int .u64 10000000,.int .u64 100000000,.int .u64 1000000000,.int .u64 10000000000,.int .u64 100000000000,.int .u64 1000000000000,.int .u64 10000000000000,.int .u64 100000000000000,.int .u64 1000000000000000,.int .u64 10000000000000000,.int .u64 100000000000000000,.int .u64 1000000000000000000,.int .u64 10000000000000000000] t frozen
   | o=>o).modify 1 fun
   | .cells _ t frozen=>.cells #[.int .u8 0,.int .u8 1,.int .u8 28,.int .u8 2,.int .u8 29,.int .u8 14,.int .u8 24,.int .u8 3,.int .u8 30,.int .u8 22,.int .u8 20,.int .u8 15,.int .u8 25,.int .u8 17,.int .u8 4,.int .u8 8,.int .u8 31,.int .u8 27,.int .u8 13,.int .u8 23,.int .u8 21,.int .u8 19,.int .u8 16,.int .u8 7,.int .u8 26,.int .u8 12,.int .u8 18,.int .u8 6,.int .u8 11,.int .u8 5,.int .u8 10,.int .u8 9] t frozen
   | o=>o).modify 2 fun
   | .cells _ t frozen=>.cells #[.int .u8 0,.int .u8 1,.int .u8 56,.int .u8 2,.int .u8 57,.int .u8 49,.int .u8 28,.int .u8 3,.int .u8 61,.int .u8 58,.int .u8 42,.int .u8 50,.int .u8 38,.int .u8 29,.int .u8 17,.int .u8 4,.int .u8 62,.int .u8 47,.int .u8 59,.int .u8 36,.int .u8 45,.int .u8 43,.int .u8 51,.int .u8 22,.int .u8 53,.int .u8 39,.int .u8 33,.int .u8 30,.int .u8 24,.int .u8 18,.int .u8 12,.int .u8 5,.int .u8 63,.int .u8 55,.int .u8 48,.int .u8 27,.int .u8 60,.int .u8 41,.int .u8 37,.int .u8 16,.int .u8 46,.int .u8 35,.int .u8 44,.int .u8 21,.int .u8 52,.int .u8 32,.int .u8 23,.int .u8 11,.int .u8 54,.int .u8 26,.int .u8 40,.int .u8 15,.int .u8 34,.int .u8 20,.int .u8 31,.int .u8 10,.int .u8 25,.int .u8 14,.int .u8 19,.int .u8 9,.int .u8 13,.int .u8 8,.int .u8 7,.int .u8 6] t frozen
   | o=>o) }
noncomputable def VE:Array Value:=#[.slice none 0 0,.slice none 0 0]
theorem laid_met (os:Os):laidMet Tryz.prog Rows.polysPairsRow.laid ((Yr os).forCall (fun _ _=>0) ⟨#[],VE,[]⟩).memory :=
 laidMet_of_run' 8 (by kernel_rfl) (by kernel_rfl)
theorem reads (os:Os) {H:Type} (enc:TypeId × Value->H):∃ places,DataW.whole enc Tryz.prog ((Yr os).forCall (fun _ _=>0) ⟨#[],VE,[]⟩).memory Tryz.f8.params.toList Rows.polysPairsSpec.vars false VE.toList 8=some ([.nil,.nil],[],places) :=
 ⟨[],by kernel_rfl⟩
theorem lifted (os:Os) (started:os.Started) (H:Type) (enc:TypeId × Value->H) (F:Stop.Interp) :
  ReturnsInHanded {} Tryz.checked os 8 .any ((OpenSpec.ofChange Rows.polysPairsSpec).preRow enc Tryz.prog Tryz.f8 Rows.polysPairsRow.domain false Rows.polysPairsRow.laid) (((OpenSpec.ofChange Rows.polysPairsSpec).at F).post enc Tryz.prog Tryz.f8 false true false false):=by
 obtain⟨places,hx⟩:=reads os enc
 refine returnsInHanded_of_row (C:=Tryz.checked) (s:=OpenSpec.ofChange Rows.polysPairsSpec) own started (by kernel_rfl) Tryz.func8
  (witness_row_at (enc:=enc) (C:=Tryz.checked) false (Yr os) VE rfl (by kernel_rfl) (by kernel_rfl) (by kernel_rfl)
   (OpenSpec.preRow_of_cond 8 hx (by kernel_rfl) (fun k hk=>by cases hk) (by kernel_rfl) (laid_met os))) ?_
 intro W base args ds gs before hval0 hW _ _ _ _ _ _;have hval:∀ (j:Nat) t v,Tryz.f8.params[j]?=some t->args[j]?=some v->Value.okWide Tryz.prog W .any base t v:=hval0;have hW':=hW;obtain⟨p,q,hA0,hV,rfl,hfz,hnd⟩:=hW;have hA:DataW.TrodAll enc Tryz.prog W 0 (fun _=>true) true Tryz.f8.params.toList args.toList ds p:=hA0;rw[Tryz.params8] at hA hval;obtain⟨v0,v1,d0,d1,p0,p1,rfl,rfl,rfl,h0,h1⟩:=trodAll_two hA;obtain⟨rfl,rfl⟩:=trodVars_none hV;obtain⟨x0,L0,rfl,r0⟩:=UZ (hval 0 23 v0 rfl rfl) h0;obtain⟨x1,L1,rfl,r1⟩:=UZ (hval 1 23 v1 rfl rfl) h1
 refine(YU x0 L0 x1 L1 W r0 r1).mono fun e W' ⟨he,hg⟩=>?_
 subst he;exact⟨_,rfl,LawPost.law_post laidOut (by kernel_rfl) (by kernel_rfl) Tryz.underlying4 hW' rfl rfl hg⟩
theorem k4:mapsRowed Tryz.prog=true:=by kernel_rfl
theorem k10:(Rows.polysPairsRow.inPlace==Tryz.prog.inPlace 8)=true:=by kernel_rfl
theorem k11:(Rows.polysPairsRow.unfollowed==Tryz.prog.unfollowed 8)=true:=by kernel_rfl
theorem k12:(Rows.polysPairsRow.recurses==Tryz.prog.recurses 8)=true:=by kernel_rfl
theorem k13:(Rows.polysPairsRow.named==Tryz.prog.varsNamed 8)=true:=by kernel_rfl
theorem closed:joinedFacts Tryz.prog 8 Tryz.f8 (OpenSpec.ofChange Rows.polysPairsSpec).bare Rows.polysPairsRow=true:=by
 unfold joinedFacts;rw[laidOut,k4,k10,k11,k12,k13]
 kernel_rfl
theorem said:Rows.PolysPairsSaid :=
 OpenClaim.holds_of_cond 8 Tryz.f8 rfl rfl rfl rfl rfl rfl rfl ⟨rfl,rfl,rfl,rfl,rfl⟩ rfl rfl rfl rfl rfl (by kernel_rfl) Tryz.func8 closed
  (of_decide_eq_true (by kernel_rfl)) (by unfold Func.isWrapper;first | (rw[if_pos (by decide +kernel)];kernel_rfl) | (rw[if_neg (by decide +kernel)];exact⟨rfl,rfl⟩))
  (fun os started H enc _ F=>by rw[OpenClaim.pre_eq_preRow];exact lifted os started H enc F)
theorem plain (f : FuncId) (fn : Func) (hf : Tryz.pinned.checked.prog.funcNamed "reckoner/reckonerlaw04.PolysPairs" = some f) (hfn : Tryz.pinned.checked.prog.funcs[f]? = some fn) :
  false=Tryz.pinned.checked.prog.looks []/\∀ (j:Nat) t,fn.params[j]?=some t->Tryz.pinned.checked.prog.wantsStandIn t=false:=by
 obtain rfl : f = 8 := Option.some.inj ((show Tryz.prog.funcNamed "reckoner/reckonerlaw04.PolysPairs" = some 8 by kernel_rfl).symm.trans hf) |>.symm
 obtain rfl:fn=Tryz.f8:=(Option.some.inj (Tryz.func8.symm.trans hfn)).symm;refine⟨by kernel_rfl,fun j t ht=>?_⟩;rw[Tryz.params8] at ht
 obtain rfl:t=23:=by simpa using Array.mem_of_getElem? ht
 exact(show Tryz.prog.wantsStandIn 23=false by kernel_rfl)
theorem card:Rows.PolysPairsCardSaid :=
 Claim7.holds_tied_plain_at .later [] _ _ _ _ said (fun _ h=>by cases h) (by kernel_rfl) (fun _ h=>by cases h) polysPairs_row_tie rfl ⟨rfl,rfl⟩ (by kernel_rfl) rfl plain (by kernel_rfl)
#print axioms card
end PolysPairsC
end Limb
end Go.Proofs.YtgkkbkoiaccmfaaGreatDoor
