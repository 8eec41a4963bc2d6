/-
  The walks of what polys.At asks of a place.
-/
import Derived.Test.YtgkkbkoiaccmfaaGreatDoorPzQM
import Derived.SizedLaws
import Derived.Lib.EndianBits
set_option linter.unusedSimpArgs false
set_option linter.unusedVariables false
set_option maxHeartbeats 16000000
set_option maxRecDepth 100000
namespace Go.Proofs.YtgkkbkoiaccmfaaGreatDoor
namespace Pol
open Go.RowKit Go.Sort Limb
def IR (w:World) (e:Ending) (w':World):Prop:=∃ z:Int,e=.returned (.int .i64 z)/\Below w.heap.size w w'
theorem IR.is {w w':World} (z:Int) (h:Below w.heap.size w w'):IR w (.returned (.int .i64 z)) w':=⟨z,rfl,h⟩
def BR (w:World) (Φ:Prop) (e:Ending) (w':World):Prop:=∃ b:Bool,e=.returned (.bool b)/\(b=false->Φ)/\Below w.heap.size w w'
theorem BR.yes {w w':World} {Φ:Prop} (h:Below w.heap.size w w'):BR w Φ (.returned (.bool true)) w':=⟨true,rfl,nofun,h⟩
theorem BR.no {w w':World} {Φ:Prop} (h:Below w.heap.size w w') (hp:Φ):BR w Φ (.returned (.bool false)) w':=⟨false,rfl,fun _=>hp,h⟩
theorem jdi (a:Option Addr) (n c:Nat) (w:World):Calls Tryz.prog 169 #[.slice a n c] w fun e w'=>IR w e w':=by
 go_enter Tryz.func169,Tryz.ntmps169;go_wp2_with fail
 go_ret;exact IR.is _ zk
theorem jb4 (s:Bool) (a:Option Addr) (n c:Nat) (w:World):Calls Tryz.prog 66 #[.agg #[.bool s,.slice a n c]] w fun e w'=>IR w e w':=by
 obtain⟨V,hV⟩:∃ V,V=w.alloc (.cells #[.bool s,.slice a n c] 26):=⟨_,rfl⟩
 have hbV:Below w.heap.size w V:=by rw[hV];exact zk.alloc zj _
 have B1:=qh (show Bxs V w.heap.size 26 [.bool s,.slice a n c] by rw[hV];exact Bxs.new w 26 [.bool s,.slice a n c]);have KG:=qh hbV;have HV:=qh hV;clear hV hbV;go_enter Tryz.func66,Tryz.ntmps66
 go_upto_region 1 with (fail)
 rw[show w.alloc (.cells #[.bool s,.slice a n c] 26)=V from HV.o.symm];have c0:=B1.o.ce 0;have c1:=B1.o.ce 1;go_wp2_with fail
 with_reducible refine(jdi _ _ _ _).mono ?_
 rintro e w1 ⟨zw1,rfl,hb⟩;have KG:=qk KG hb;have B1:=qh (B1.o.bl hb);clear hb c0 c1;go_wp2_with fail
 go_ret;exact IR.is _ KG.o
theorem jgg (x:FV) (w:World):Calls Tryz.prog 11 #[x.v] w fun e w'=>IR w e w':=by
 obtain⟨V,hV⟩:∃ V,V=w.alloc (.cells #[.bool x.t.s,.slice x.t.a x.t.n x.t.c,.bool x.l.s,.slice x.l.a x.l.n x.l.c] 28):=⟨_,rfl⟩
 have hbV:Below w.heap.size w V:=by rw[hV];exact zk.alloc zj _
 have B1:=qh (show Bxs V w.heap.size 28 [.bool x.t.s,.slice x.t.a x.t.n x.t.c,.bool x.l.s,.slice x.l.a x.l.n x.l.c] by rw[hV];exact Bxs.new w 28 [.bool x.t.s,.slice x.t.a x.t.n x.t.c,.bool x.l.s,.slice x.l.a x.l.n x.l.c]);have KG:=qh hbV;have HV:=qh hV;clear hV hbV;change Calls Tryz.prog 11 #[.agg #[.bool x.t.s,.slice x.t.a x.t.n x.t.c,.bool x.l.s,.slice x.l.a x.l.n x.l.c]] w _;go_enter Tryz.func11,Tryz.ntmps11
 go_upto_region 1 with (fail)
 rw[show w.alloc (.cells #[.bool x.t.s,.slice x.t.a x.t.n x.t.c,.bool x.l.s,.slice x.l.a x.l.n x.l.c] 28)=V from HV.o.symm];have c0:=B1.o.ce 0;have c1:=B1.o.ce 1;have c2:=B1.o.ce 2;have c3:=B1.o.ce 3;go_wp2_with fail
 with_reducible refine(jb4 _ _ _ _ _).mono ?_
 rintro e w1 ⟨zw1,rfl,hb⟩;have KG:=qk KG hb;have B1:=qh (B1.o.bl hb);clear hb c0 c1 c2 c3;by_cases h:wrap64 (1+zw1)<=1048576
 ·have c0:=B1.o.ce 0;have c1:=B1.o.ce 1;have c2:=B1.o.ce 2;have c3:=B1.o.ce 3;go_wp2_with fail
  with_reducible refine(jb4 _ _ _ _ _).mono ?_
  rintro e w2 ⟨z2,rfl,hb⟩;have KG:=qk KG hb;clear hb c0 c1 c2 c3;go_wp2_with fail
  go_ret;exact IR.is _ KG.o
 ·have h2:1048576<wrap64 (1+zw1):=by omega
  go_wp2_with fail
  go_ret;exact IR.is _ KG.o
theorem jgh (t:TV) (w:World):Calls Tryz.prog 168 #[TV.v t] w fun e w'=>IR w e w':=by
 obtain⟨V,hV⟩:∃ V,V=w.alloc (.cells #[.bool t.c.t.s,.slice t.c.t.a t.c.t.n t.c.t.c,.bool t.c.l.s,.slice t.c.l.a t.c.l.n t.c.l.c,.int .u16 t.m.x,.int .u16 t.m.y,.int .u16 t.m.z,.int .u16 t.m.t] 71):=⟨_,rfl⟩
 have hbV:Below w.heap.size w V:=by rw[hV];exact zk.alloc zj _
 have B1:=qh (show Bxs V w.heap.size 71 [.bool t.c.t.s,.slice t.c.t.a t.c.t.n t.c.t.c,.bool t.c.l.s,.slice t.c.l.a t.c.l.n t.c.l.c,.int .u16 t.m.x,.int .u16 t.m.y,.int .u16 t.m.z,.int .u16 t.m.t] by rw[hV];exact Bxs.new w 71 [.bool t.c.t.s,.slice t.c.t.a t.c.t.n t.c.t.c,.bool t.c.l.s,.slice t.c.l.a t.c.l.n t.c.l.c,.int .u16 t.m.x,.int .u16 t.m.y,.int .u16 t.m.z,.int .u16 t.m.t]);have KG:=qh hbV;have HV:=qh hV;clear hV hbV;change Calls Tryz.prog 168 #[.agg #[.bool t.c.t.s,.slice t.c.t.a t.c.t.n t.c.t.c,.bool t.c.l.s,.slice t.c.l.a t.c.l.n t.c.l.c,.int .u16 t.m.x,.int .u16 t.m.y,.int .u16 t.m.z,.int .u16 t.m.t]] w _;go_enter Tryz.func168,Tryz.ntmps168
 go_upto_region 1 with (fail)
 rw[show w.alloc (.cells #[.bool t.c.t.s,.slice t.c.t.a t.c.t.n t.c.t.c,.bool t.c.l.s,.slice t.c.l.a t.c.l.n t.c.l.c,.int .u16 t.m.x,.int .u16 t.m.y,.int .u16 t.m.z,.int .u16 t.m.t] 71)=V from HV.o.symm];have c0:=B1.o.ce 0;have c1:=B1.o.ce 1;have c2:=B1.o.ce 2;have c3:=B1.o.ce 3;have c4:=B1.o.ce 4;have c5:=B1.o.ce 5;have c6:=B1.o.ce 6;have c7:=B1.o.ce 7;go_wp2_with fail
 with_reducible refine(jgg t.c _).mono ?_
 rintro e w1 ⟨zw1,rfl,hb⟩;have KG:=qk KG hb;have B1:=qh (B1.o.bl hb);clear hb c0 c1 c2 c3 c4 c5 c6 c7;go_wp2_with fail
 go_ret;exact IR.is _ KG.o
theorem jgi (x:PV) (ts:List TV) (w:World) (hr:RT w x.a ts) (hl:ts.length=x.n) (hn:x.n<=1000000000):Calls Tryz.prog 65 #[x.v] w fun e w'=>IR w e w':=by
 obtain⟨xa,xn,xc⟩:=x;have HR:=qh hr;have HL:=qh (show ts.length=xn from hl);have HN:=qh (show xn<=1000000000 from hn);change Calls Tryz.prog 65 #[.slice xa xn xc] w _;clear hr hl hn;go_enter Tryz.func65,Tryz.ntmps65;go_wp2_with fail
 go_loopw [3,4] (fun s i wr=>∃ (j:Nat) (z:Int),j<=xn/\i=.int .i64 j/\s=.int .i64 z/\Below w.heap.size w wr) (fun _ i _=>xn-(intOf i).toNat)
 case atStart =>
  exact⟨0,_,Nat.zero_le _,rfl,rfl,zk⟩
 case round =>
  obtain⟨j,z,hj,rfl,rfl,hb0⟩:=hrel;have HJ:=qh hj;have KG:=qh hb0;clear hj hb0;by_cases hjn:j<xn
  ·by_cases hz:z<=1048576
   ·have HJN:=qh hjn
    have hjl:j<ts.length:=by rw[HL.o];exact hjn
    obtain⟨pb,po,rfl,hc⟩:=(HR.o.below KG.o).one (fun h=>by rw[h] at hjl;simp at hjl);obtain⟨t,he⟩:∃ t,ts[j]?=some t:=⟨_,List.getElem?_eq_getElem hjl⟩;obtain⟨c0,c1,c2,c3,c4,c5,c6,c7⟩:=(hc j t he).eight;have ek:IntKind.i64.wrap ((j:Int)+1)=(j:Int)+1:=IntWalk.i64_in _ (by have:=HJN.o;have:=HN.o;omega);clear hc he hjl;go_wp2_with fail
    with_reducible refine(jgh t _).mono ?_
    rintro e w1 ⟨z1,rfl,hb⟩;have KG:=qk KG hb;clear hb c0 c1 c2 c3 c4 c5 c6 c7;go_wp2_with fail
    go_roundw
    case rel =>
     exact⟨j+1,_,by have:=HJN.o;omega,rfl,rfl,KG.o⟩
    case measure=>simp[intOf];have:=HJN.o;omega
   ·have hz2:1048576<z:=by omega
    go_wp2_with fail
    go_ret;exact IR.is _ KG.o
  ·have hge:¬((j:Int)<(xn:Int)):=by omega
   clear hjn;go_wp2_with fail
   go_ret;exact IR.is _ KG.o
def Qs (m:Nat) (ts:List TV):Prop:=ts.length<=m/\∀ t∈ts,t.c.t.n<=4/\t.c.l.n<=1
def jgj (m:Nat) (Xs:List (PV × List TV)):Prop:=∀ e∈Xs,Qs m e.2
theorem jdj (g m k:Nat) (Xs:List (PV × List TV)) (w:World) (hk:Xs.length=k) (hc:∀ i e,Xs[i]?=some e->w.cell? ⟨g,i,none⟩=some e.1.v) (hr:∀ e∈Xs,RT w e.1.a e.2/\e.2.length=e.1.n)
  (hn:Xs.length<=1000) (hm:m<=1000) :
  Calls Tryz.prog 10 #[.int .i64 m,.slice (some ⟨g,0,none⟩) k k] w (BR w (jgj m Xs)):=by
 have HK:=qh hk;have HC:=qh hc;have HR:=qh hr;have HN:=qh hn;have HM:=qh hm;clear hk hc hr hn hm;go_enter Tryz.func10,Tryz.ntmps10;go_wp2_with fail
 go_loopw [5] (fun i wr=>∃ j:Nat,j<=k/\i=.int .i64 j/\(∀ i e,Xs[i]?=some e->i<j->Qs m e.2)/\Below w.heap.size w wr) (fun i _=>k-(intOf i).toNat)
 case atStart =>
  exact⟨0,Nat.zero_le _,rfl,fun i e _ h=>absurd h (Nat.not_lt_zero _),zk⟩
 case round =>
  obtain⟨j,hj,rfl,hg,hb0⟩:=hrel;have HJ:=qh hj;have HG:=qh hg;have KG:=qh hb0;clear hj hg hb0;by_cases hjn:j<k
  ·have HJN:=qh hjn;obtain⟨⟨⟨xa,xn,xc⟩,ts⟩,he⟩:∃ e,Xs[j]?=some e:=⟨_,List.getElem?_eq_getElem (by rw[HK.o];exact hjn)⟩;have HE:=qh he;have CG:=qh (show ∀ w2,Below w.heap.size w w2->w2.cell? ⟨g,j,none⟩=some (.slice xa xn xc) from fun (w2:World) (h:Below w.heap.size w w2)=>(h.cell (p:=⟨g,j,none⟩) (block_lt_of_cell (HC.o j _ he))).trans (HC.o j _ he));have c0:=CG.o _ KG.o;obtain⟨r1,r2⟩:=HR.o _ (List.mem_of_getElem? he);have RX:=qh r1;have LX:=qh (show ts.length=xn from r2);have ek:IntKind.i64.wrap ((j:Int)+1)=(j:Int)+1:=IntWalk.i64_in _ (by have:=HJN.o;have:=HK.o;have:=HN.o;omega);have em:IntKind.i64.wrap (40*(m:Int))=40*(m:Int):=IntWalk.i64_in _ (by have:=HM.o;omega);clear he r1 r2;by_cases hxm:xn<=m
   ·have HXM:=qh hxm;have NX:=qh (show xn<=1000000000 by have:=HM.o;omega)
    have h1:¬((xn:Int)>(m:Int)):=by omega
    have h2:¬((m:Int)<(xn:Int)):=by omega
    have PS:=qh (jgi ⟨xa,xn,xc⟩ ts wr (RX.o.below KG.o) LX.o NX.o);clear hxm;go_wp2_with fail
    with_reducible refine PS.o.mono ?_
    rintro e w1 ⟨z,rfl,hb⟩;have KG:=qk KG hb;clear hb PS c0;by_cases hz:z>40*(m:Int)
    ·have hz2:40*(m:Int)<z:=hz;go_wp2_with fail
     go_ret;exact BR.yes KG.o
    ·have hz2:¬(40*(m:Int)<z):=hz;go_wp2_with fail
     go_loopw [6] (fun i wr=>∃ l:Nat,l<=xn/\i=.int .i64 l/\(∀ i t,ts[i]?=some t->i<l->t.c.t.n<=4/\t.c.l.n<=1)/\Below w.heap.size w wr) (fun i _=>xn-(intOf i).toNat)
     case atStart =>
      exact⟨0,Nat.zero_le _,rfl,fun i e _ h=>absurd h (Nat.not_lt_zero _),KG.o⟩
     case round =>
      obtain⟨l,hl,rfl,hg2,hb0⟩:=hrel;have HL:=qh hl;have HG2:=qh hg2;have KG:=qh hb0;clear hl hg2 hb0;have c0:=CG.o _ KG.o;by_cases hln:l<xn
      ·have HLN:=qh hln
       have hll:l<ts.length:=by rw[LX.o];exact hln
       obtain⟨pb,po,rfl,hc⟩:=(RX.o.below KG.o).one (fun h=>by rw[h] at hll;simp at hll);obtain⟨t,ht⟩:∃ t,ts[l]?=some t:=⟨_,List.getElem?_eq_getElem hll⟩;obtain⟨d0,d1,d2,d3,d4,d5,d6,d7⟩:=(hc l t ht).eight;have HT:=qh ht;have el:IntKind.i64.wrap ((l:Int)+1)=(l:Int)+1:=IntWalk.i64_in _ (by have:=HLN.o;have:=NX.o;omega);clear hc ht hll;by_cases h4:t.c.t.n<=4
       ·have g1:¬((t.c.t.n:Int)>4):=by omega
        have g2:¬((4:Int)<(t.c.t.n:Int)):=by omega
        by_cases h5:t.c.l.n<=1
        ·have g3:¬((t.c.l.n:Int)>1):=by omega
         have g4:¬((1:Int)<(t.c.l.n:Int)):=by omega
         have H45:=qh (show t.c.t.n<=4/\t.c.l.n<=1 from⟨h4,h5⟩);clear h4 h5;go_wp2_with fail
         go_roundw
         case rel =>
          refine⟨l+1,by have:=HLN.o;omega,rfl,fun i t' h1 h2=>?_,KG.o⟩;by_cases h3:i<l
          ·exact HG2.o i t' h1 h3
          ·obtain rfl:i=l:=by omega
           rw[HT.o] at h1;obtain rfl:=Option.some.inj h1;exact H45.o
         case measure=>simp[intOf];have:=HLN.o;omega
        ·have g3:(t.c.l.n:Int)>1:=by omega
         have g4:(1:Int)<(t.c.l.n:Int):=by omega
         clear h4 h5;go_wp2_with fail
         go_ret;exact BR.yes KG.o
       ·have g1:(t.c.t.n:Int)>4:=by omega
        have g2:(4:Int)<(t.c.t.n:Int):=by omega
        clear h4;go_wp2_with fail
        go_ret;exact BR.yes KG.o
      ·have hge:¬((l:Int)<(xn:Int)):=by omega
       have HLE:=qh (show l=xn by have:=HL.o;omega);clear hln;go_wp2_with fail
       go_roundw
       case rel =>
        refine⟨j+1,by have:=HJN.o;omega,rfl,fun i e' h1 h2=>?_,KG.o⟩;by_cases h3:i<j
        ·exact HG.o i e' h1 h3
        ·obtain rfl:i=j:=by omega
         rw[HE.o] at h1;obtain rfl:=Option.some.inj h1;refine⟨by have h5:=LX.o;have h6:=HXM.o;show ts.length<=m;omega,fun t ht=>?_⟩;obtain⟨i2,h7⟩:=List.mem_iff_getElem?.1 (show t∈ts from ht);exact HG2.o i2 t h7 (by have h8:=(List.getElem?_eq_some_iff.1 h7).1;have h5:=LX.o;have h9:=HLE.o;omega)
       case measure=>simp[intOf];have:=HJN.o;omega
   ·have h1:(xn:Int)>(m:Int):=by omega
    have h2:(m:Int)<(xn:Int):=by omega
    clear hxm;go_wp2_with fail
    go_ret;exact BR.yes KG.o
  ·have hge:¬((j:Int)<(k:Int)):=by omega
   have HJE:=qh (show j=k by have:=HJ.o;omega);clear hjn;go_wp2_with fail
   go_ret
   refine BR.no KG.o fun e he=>?_
   obtain⟨i,h⟩:=List.mem_iff_getElem?.1 he;exact HG.o i e h (by have h8:=(List.getElem?_eq_some_iff.1 h).1;have h9:=HJE.o;have:=HK.o;omega)
theorem tall_any (x:PV) (ts:List TV) (w:World) (hr:RT w x.a ts) (hl:ts.length=x.n) (hn:x.n<=1000000000) :
  Calls Tryz.prog 26 #[x.v] w (BR w (∀ t∈ts,t.m.le 12)):=by
 obtain⟨xa,xn,xc⟩:=x;have RX:=qh hr;have LX:=qh (show ts.length=xn from hl);have NX:=qh (show xn<=1000000000 from hn);change Calls Tryz.prog 26 #[.slice xa xn xc] w _;clear hr hl hn;go_enter Tryz.func26,Tryz.ntmps26;go_wp2_with fail
 go_loopw [3] (fun i wr=>∃ j:Nat,j<=xn/\i=.int .i64 j/\(∀ i t,ts[i]?=some t->i<j->t.m.le 12)/\Below w.heap.size w wr) (fun i _=>xn-(intOf i).toNat)
 case atStart =>
  exact⟨0,Nat.zero_le _,rfl,fun i e _ h=>absurd h (Nat.not_lt_zero _),zk⟩
 case round =>
  obtain⟨j,hj,rfl,hg,hb0⟩:=hrel;have HJ:=qh hj;have HG:=qh hg;have KG:=qh hb0;clear hj hg hb0;by_cases hjn:j<xn
  ·have HJN:=qh hjn
   have hll:j<ts.length:=by rw[LX.o];exact hjn
   obtain⟨pb,po,rfl,hc⟩:=(RX.o.below KG.o).one (fun h=>by rw[h] at hll;simp at hll);obtain⟨t,ht⟩:∃ t,ts[j]?=some t:=⟨_,List.getElem?_eq_getElem hll⟩;have RE1:=qh (hc j t ht);have HT:=qh ht;have ek:IntKind.i64.wrap ((j:Int)+1)=(j:Int)+1:=IntWalk.i64_in _ (by have:=HJN.o;have:=NX.o;omega);obtain⟨W0,hW0⟩:∃ W,W=wr:=⟨_,rfl⟩;have KW:=qh (show Below W0.heap.size W0 wr by rw[hW0];exact zk);have KG0:=qh (show Below w.heap.size w W0 by rw[hW0];exact KG.o);rw[<- hW0] at RE1;clear hc ht hll hW0;go_wp2_with fail
   go_loopw [4] (fun i wr=>∃ l:Nat,l<=4/\i=.int .i64 l/\(∀ i,i<l->t.m.at i<=12)/\Below W0.heap.size W0 wr) (fun i _=>4-(intOf i).toNat)
   case atStart =>
    exact⟨0,Nat.zero_le _,rfl,fun i h=>absurd h (Nat.not_lt_zero _),KW.o⟩
   case round =>
    obtain⟨l,hl,rfl,hg2,hb0⟩:=hrel;have HG2:=qh hg2;have KW:=qh hb0;have KG:=qh (KG0.o.trans (hb0.mono KG0.o.size));obtain⟨d0,d1,d2,d3,d4,d5,d6,d7⟩:=(RE1.o.below hb0).eight;clear hg2 hb0;by_cases hl4:l<4
    ·have hl5:l=0\/l=1\/l=2\/l=3:=by omega
     clear hl hl4
     rcases hl5 with rfl | rfl | rfl | rfl
     ·by_cases hv:t.m.x<=12
      ·have g1:¬((t.m.x:Int)>12):=by omega
       have g2:¬((12:Int)<(t.m.x:Int)):=by omega
       have HV:=qh hv;clear hv;go_wp2_with fail
       go_roundw
       case rel =>
        refine⟨0+1,by omega,rfl,fun i hi=>?_,KW.o⟩;by_cases h3:i<0
        ·exact HG2.o i h3
        ·obtain rfl:i=0:=by omega
         exact HV.o
       case measure=>simp[intOf]
      ·have g1:(t.m.x:Int)>12:=by omega
       have g2:(12:Int)<(t.m.x:Int):=by omega
       clear hv;go_wp2_with fail
       go_ret;exact BR.yes KG.o
     ·by_cases hv:t.m.y<=12
      ·have g1:¬((t.m.y:Int)>12):=by omega
       have g2:¬((12:Int)<(t.m.y:Int)):=by omega
       have HV:=qh hv;clear hv;go_wp2_with fail
       go_roundw
       case rel =>
        refine⟨1+1,by omega,rfl,fun i hi=>?_,KW.o⟩;by_cases h3:i<1
        ·exact HG2.o i h3
        ·obtain rfl:i=1:=by omega
         exact HV.o
       case measure=>simp[intOf]
      ·have g1:(t.m.y:Int)>12:=by omega
       have g2:(12:Int)<(t.m.y:Int):=by omega
       clear hv;go_wp2_with fail
       go_ret;exact BR.yes KG.o
     ·by_cases hv:t.m.z<=12
      ·have g1:¬((t.m.z:Int)>12):=by omega
       have g2:¬((12:Int)<(t.m.z:Int)):=by omega
       have HV:=qh hv;clear hv;go_wp2_with fail
       go_roundw
       case rel =>
        refine⟨2+1,by omega,rfl,fun i hi=>?_,KW.o⟩;by_cases h3:i<2
        ·exact HG2.o i h3
        ·obtain rfl:i=2:=by omega
         exact HV.o
       case measure=>simp[intOf]
      ·have g1:(t.m.z:Int)>12:=by omega
       have g2:(12:Int)<(t.m.z:Int):=by omega
       clear hv;go_wp2_with fail
       go_ret;exact BR.yes KG.o
     ·by_cases hv:t.m.t<=12
      ·have g1:¬((t.m.t:Int)>12):=by omega
       have g2:¬((12:Int)<(t.m.t:Int)):=by omega
       have HV:=qh hv;clear hv;go_wp2_with fail
       go_roundw
       case rel =>
        refine⟨3+1,by omega,rfl,fun i hi=>?_,KW.o⟩;by_cases h3:i<3
        ·exact HG2.o i h3
        ·obtain rfl:i=3:=by omega
         exact HV.o
       case measure=>simp[intOf]
      ·have g1:(t.m.t:Int)>12:=by omega
       have g2:(12:Int)<(t.m.t:Int):=by omega
       clear hv;go_wp2_with fail
       go_ret;exact BR.yes KG.o
    ·obtain rfl:l=4:=by omega
     clear hl hl4;go_wp2_with fail
     go_roundw
     case rel =>
      refine⟨j+1,by have:=HJN.o;omega,rfl,fun i t' h1 h2=>?_,KG.o⟩;by_cases h3:i<j
      ·exact HG.o i t' h1 h3
      ·obtain rfl:i=j:=by omega
       rw[HT.o] at h1;obtain rfl:=Option.some.inj h1;exact⟨HG2.o 0 (by omega),HG2.o 1 (by omega),HG2.o 2 (by omega),HG2.o 3 (by omega)⟩
     case measure=>simp[intOf];have:=HJN.o;omega
  ·have hge:¬((j:Int)<(xn:Int)):=by omega
   have HJE:=qh (show j=xn by have:=HJ.o;omega);clear hjn;go_wp2_with fail
   go_ret
   refine BR.no KG.o fun t ht=>?_
   obtain⟨i,h⟩:=List.mem_iff_getElem?.1 ht;exact HG.o i t h (by have h8:=(List.getElem?_eq_some_iff.1 h).1;have h5:=LX.o;have h9:=HJE.o;omega)
structure TwN (w:World) (lo:Nat) (t x:NV) (o:Nat->Int):Prop where
 s:t.s=x.s
 n:t.n=x.n
 c:t.c=x.n+1
 own:Limb.Own 160 w lo t.a (x.n+1) (x.n+1) (tw o x.n)
structure TwF (w:World) (lo:Nat) (t x:FV) (o1 o2:Nat->Int):Prop where
 top:TwN w lo t.t x.t o1
 low:TwN w lo t.l x.l o2
 ap:Xk t.t.a t.l.a
theorem TwN.kept {w w':World} {lo:Nat} {t x:NV} {o:Nat->Int} (h:TwN w lo t x o) (hk:∀ b,t.blk b->w'.heap[b]?=w.heap[b]?):TwN w' lo t x o:=⟨h.s,h.n,h.c,h.own.kept hk⟩
theorem TwN.QY {w:World} {lo:Nat} {t x:NV} {o:Nat->Int} (h:TwN w lo t x o):∀ b,t.blk b->lo<=b/\b<w.heap.size:=fun b ⟨p,hp,e⟩=>by
 rcases h.own.place with h0 | ⟨g,cur,ha,hlo,hg,_⟩
 ·rw[h0.1] at hp;cases hp
 ·rw[ha] at hp
  cases hp
  subst e;exact⟨hlo,lt_of_block hg⟩
theorem TwN.below {w w':World} {lo:Nat} {t x:NV} {o:Nat->Int} (h:TwN w lo t x o) (hb:Below w.heap.size w w'):TwN w' lo t x o:=h.kept fun b h1=>hb.block b (h.QY b h1).2
theorem TwN.mono {w:World} {lo lo':Nat} {t x:NV} {o:Nat->Int} (h:TwN w lo t x o) (hl:lo'<=lo):TwN w lo' t x o:=⟨h.s,h.n,h.c,h.own.mono hl⟩
theorem TwF.kept {w w':World} {lo:Nat} {t x:FV} {o1 o2:Nat->Int} (h:TwF w lo t x o1 o2) (hk:∀ b,FV.blk t b->w'.heap[b]?=w.heap[b]?):TwF w' lo t x o1 o2:=⟨h.top.kept fun b hb=>hk b (Or.inl hb),h.low.kept fun b hb=>hk b (Or.inr hb),h.ap⟩
theorem TwF.QY {w:World} {lo:Nat} {t x:FV} {o1 o2:Nat->Int} (h:TwF w lo t x o1 o2):∀ b,FV.blk t b->lo<=b/\b<w.heap.size:=fun b hb=>hb.elim (h.top.QY b) (h.low.QY b)
theorem TwF.below {w w':World} {lo:Nat} {t x:FV} {o1 o2:Nat->Int} (h:TwF w lo t x o1 o2) (hb:Below w.heap.size w w'):TwF w' lo t x o1 o2:=⟨h.top.below hb,h.low.below hb,h.ap⟩
theorem TwF.mono {w:World} {lo lo':Nat} {t x:FV} {o1 o2:Nat->Int} (h:TwF w lo t x o1 o2) (hl:lo'<=lo):TwF w lo' t x o1 o2:=⟨h.top.mono hl,h.low.mono hl,h.ap⟩
theorem TwF.put {w:World} {lo:Nat} {t x:FV} {o1 o2:Nat->Int} (h:TwF w lo t x o1 o2) {b:Nat} (hb:∀ g,FV.blk t g->g≠b) (v0 v1 v2 v3 v4 v5 v6 v7:Value):TwF (Zg w b v0 v1 v2 v3 v4 v5 v6 v7) lo t x o1 o2:=by
 have h1:∀ (u:World) (i:Nat) (v:Value) (g:Nat),g≠b->(u.setCell ⟨b,i,none⟩ v).heap[g]?=u.heap[g]?:=fun u i v g hne=>Below.heap_setCell _ _ _ _ hne
 refine h.kept fun g hg=>?_
 have hne:=hb g hg;unfold Zg;rw[h1 _ _ _ _ hne,h1 _ _ _ _ hne,h1 _ _ _ _ hne,h1 _ _ _ _ hne,h1 _ _ _ _ hne,h1 _ _ _ _ hne,h1 _ _ _ _ hne,h1 _ _ _ _ hne]
theorem jgk (x:FV) (o1 o2:Nat->Int) (w:World) (h1:Rd w x.t.a x.t.n o1) (hn1:x.t.n<=100000000) (h2:Rd w x.l.a x.l.n o2) (hn2:x.l.n<=100000000) :
  Calls Tryz.prog 13 #[x.v] w fun e w'=>∃ y:FV,e=.returned y.v/\TwF w' w.heap.size y x o1 o2/\Below w.heap.size w w' :=
 (UF x.t.s x.t.a x.t.n x.t.c o1 x.l.s x.l.a x.l.n x.l.c o2 w h1 hn1 h2 hn2).mono fun e w' ⟨g1,g2,he,p1,p2,hne,hb⟩ =>
  ⟨⟨⟨x.t.s,some ⟨g1,0,none⟩,x.t.n,x.t.n+1⟩,⟨x.l.s,some ⟨g2,0,none⟩,x.l.n,x.l.n+1⟩⟩,he,⟨⟨rfl,rfl,rfl,p1⟩,⟨rfl,rfl,rfl,p2⟩,fun p q hp hq=>by cases hp;cases hq;exact hne⟩,hb⟩
theorem UJ (t:TV) (o1 o2:Nat->Int) (w:World) (h1:Rd w t.c.t.a t.c.t.n o1) (hn1:t.c.t.n<=100000000) (h2:Rd w t.c.l.a t.c.l.n o2) (hn2:t.c.l.n<=100000000) :
  Calls Tryz.prog 67 #[TV.v t] w fun e w'=>∃ y:FV,e=.returned (TV.v ⟨y,t.m⟩)/\TwF w' w.heap.size y t.c o1 o2/\Below w.heap.size w w':=by
 obtain⟨V,hV⟩:∃ V,V=(w.alloc (.cells #[.bool t.c.t.s,.slice t.c.t.a t.c.t.n t.c.t.c,.bool t.c.l.s,.slice t.c.l.a t.c.l.n t.c.l.c,.int .u16 t.m.x,.int .u16 t.m.y,.int .u16 t.m.z,.int .u16 t.m.t] 71)).alloc (.cells #[.bool false,.slice none 0 0,.bool false,.slice none 0 0,.int .u16 0,.int .u16 0,.int .u16 0,.int .u16 0] 71):=⟨_,rfl⟩
 have hbV:Below w.heap.size w V:=by rw[hV];exact(zk.alloc zj _).alloc (by go_size) _
 have B1:=qh (show Bxs V w.heap.size 71 [.bool t.c.t.s,.slice t.c.t.a t.c.t.n t.c.t.c,.bool t.c.l.s,.slice t.c.l.a t.c.l.n t.c.l.c,.int .u16 t.m.x,.int .u16 t.m.y,.int .u16 t.m.z,.int .u16 t.m.t] by rw[hV];exact(Bxs.new w 71 [.bool t.c.t.s,.slice t.c.t.a t.c.t.n t.c.t.c,.bool t.c.l.s,.slice t.c.l.a t.c.l.n t.c.l.c,.int .u16 t.m.x,.int .u16 t.m.y,.int .u16 t.m.z,.int .u16 t.m.t]).alloc _)
 have B2:=qh (show Bxs V (w.heap.size+1) 71 [.bool false,.slice none 0 0,.bool false,.slice none 0 0,.int .u16 0,.int .u16 0,.int .u16 0,.int .u16 0] by
  have h:=Bxs.new (w.alloc (.cells #[.bool t.c.t.s,.slice t.c.t.a t.c.t.n t.c.t.c,.bool t.c.l.s,.slice t.c.l.a t.c.l.n t.c.l.c,.int .u16 t.m.x,.int .u16 t.m.y,.int .u16 t.m.z,.int .u16 t.m.t] 71)) 71 [.bool false,.slice none 0 0,.bool false,.slice none 0 0,.int .u16 0,.int .u16 0,.int .u16 0,.int .u16 0];rw[World.size_alloc] at h
  rw[hV];exact h)
 have HR1:=qh (h1.below hbV);have HR2:=qh (h2.below hbV);have HN1:=qh hn1;have HN2:=qh hn2;have KG:=qh hbV;have HV:=qh hV;obtain⟨A2,hA2⟩:∃ A,A=w.heap.size+1:=⟨_,rfl⟩;have HA2:=qh (show w.heap.size<=A2 by omega);rw[<- hA2] at B2;have HA3:=qh hA2;have HAV:=qh B2.o.lt;have HSZ:=qh KG.o.size;clear hV hbV h1 h2 hn1 hn2 hA2;change Calls Tryz.prog 67 #[.agg #[.bool t.c.t.s,.slice t.c.t.a t.c.t.n t.c.t.c,.bool t.c.l.s,.slice t.c.l.a t.c.l.n t.c.l.c,.int .u16 t.m.x,.int .u16 t.m.y,.int .u16 t.m.z,.int .u16 t.m.t]] w _;go_enter Tryz.func67,Tryz.ntmps67
 go_upto_region 1 with (fail)
 rw[show(w.alloc (.cells #[.bool t.c.t.s,.slice t.c.t.a t.c.t.n t.c.t.c,.bool t.c.l.s,.slice t.c.l.a t.c.l.n t.c.l.c,.int .u16 t.m.x,.int .u16 t.m.y,.int .u16 t.m.z,.int .u16 t.m.t] 71)).alloc (.cells #[.bool false,.slice none 0 0,.bool false,.slice none 0 0,.int .u16 0,.int .u16 0,.int .u16 0,.int .u16 0] 71)=V from HV.o.symm,show w.heap.size+1=A2 from HA3.o.symm]
 go_upto_region 1 with (fail)
 refine FS.Jc 6 [] (FS.JM [(2,FS.Sp.made (fun x:FV=>x.v) (fun x w'=>TwF w' V.heap.size x t.c o1 o2) FV.blk)])
  (fun w'=>Below V.heap.size V w') (by kernel_rfl) (by kernel_rfl) (by kernel_rfl)
  (FS.Jd (FS.Sp.Jg _ (fun _ _ _ h _ hk=>h.kept hk) (FS.JJ (by kernel_rfl))) (FS.Jl)) (fun _ _ h hb=>h.trans (hb.mono h.size)) (zk.drew) ?_
 simp only[zu,zi,ze,zx,zy,zv,zw]
 iterate 2
  refine FS.Jb rfl rfl rfl ?_ (fun w' hw'=>?_) ?_;rotate_left
  ·have hb':=hw'.world;have hs0:=(B1.o.bl hb').ce 0;have hs1:=(B1.o.bl hb').ce 1;have hs2:=(B1.o.bl hb').ce 2;have hs3:=(B1.o.bl hb').ce 3;have hs4:=(B1.o.bl hb').ce 4;have hs5:=(B1.o.bl hb').ce 5;have hs6:=(B1.o.bl hb').ce 6;have hs7:=(B1.o.bl hb').ce 7;have hsf:=(B1.o.bl hb').fz;have hsl:=(B1.o.bl hb').lt;clear hw';go_simp
   try rfl
  conv=>arg 10;simp only[Act.put,zq0,zq1,zq2]
 refine FS.Jf rfl rfl rfl (fun w' hw'=>?_) ?_
 ·have hb':=hw'.world;refine FS.Jo (FS.PM (fun x:FV=>x.v) (fun x w'=>TwF w' V.heap.size x t.c o1 o2) FV.blk w'.heap.size) ?_ (fun _ _ h=>h.post (fun _ _=>FV.inj));go_simp;have CT:=(show Calls Tryz.prog 13 #[.agg #[.bool t.c.t.s,.slice t.c.t.a t.c.t.n t.c.t.c,.bool t.c.l.s,.slice t.c.l.a t.c.l.n t.c.l.c]] w' _ from jgk t.c o1 o2 w' (HR1.o.below hb') HN1.o (HR2.o.below hb') HN2.o);refine CT.mono ?_;rintro e w'' ⟨za,rfl,ho,hb⟩;exact⟨_,rfl,⟨za,rfl,ho.mono hb'.size,ho.QY⟩,hb⟩
 rintro _ ⟨y2,rfl⟩
 conv=>arg 10;simp only[Act.put,zq0,zq1,zq2]
 iterate 3
  refine FS.Jb rfl rfl rfl ?_ (fun w' hw'=>?_) ?_;rotate_left
  ·have hb':=hw'.world;have hs0:=(B1.o.bl hb').ce 0;have hs1:=(B1.o.bl hb').ce 1;have hs2:=(B1.o.bl hb').ce 2;have hs3:=(B1.o.bl hb').ce 3;have hs4:=(B1.o.bl hb').ce 4;have hs5:=(B1.o.bl hb').ce 5;have hs6:=(B1.o.bl hb').ce 6;have hs7:=(B1.o.bl hb').ce 7;have hsf:=(B1.o.bl hb').fz;have hsl:=(B1.o.bl hb').lt;clear hw';go_simp
   try rfl
  conv=>arg 10;simp only[Act.put,zq0,zq1,zq2]
 refine FS.Jn (fun w101 hb hF=>?_);have N102:=qh (show TwF w101 V.heap.size y2 t.c o1 o2 from(FS.JE (val:=(fun x:FV=>x.v)) (Φ:=fun x w'=>TwF w' V.heap.size x t.c o1 o2) (fun _ _=>FV.inj) (hF.all 2)));clear hF;have B1:=qh (B1.o.bl hb);have B2:=qh (B2.o.bl hb);have KG:=qk KG hb;clear hb;have HD:=qh (show TwF (Zg w101 A2 (.bool y2.t.s) (.slice y2.t.a y2.t.n y2.t.c) (.bool y2.l.s) (.slice y2.l.a y2.l.n y2.l.c) (.int .u16 t.m.x) (.int .u16 t.m.y) (.int .u16 t.m.z) (.int .u16 t.m.t)) w.heap.size y2 t.c o1 o2 from(N102.o.put (fun g hg=>by have:=(N102.o.QY g hg).1;have:=HAV.o;omega) ..).mono HSZ.o);have HB:=qh (show Below w.heap.size w (Zg w101 A2 (.bool y2.t.s) (.slice y2.t.a y2.t.n y2.t.c) (.bool y2.l.s) (.slice y2.l.a y2.l.n y2.l.c) (.int .u16 t.m.x) (.int .u16 t.m.y) (.int .u16 t.m.z) (.int .u16 t.m.t)) from ZW KG.o HA2.o ..);have c20:=B2.o.ce 0;have c21:=B2.o.ce 1;have c22:=B2.o.ce 2;have c23:=B2.o.ce 3;have c24:=B2.o.ce 4;have c25:=B2.o.ce 5;have c26:=B2.o.ce 6;have c27:=B2.o.ce 7;have c2f:=B2.o.fz;have c2l:=B2.o.lt;go_wp2_with fail
 exact bodyPost_ret (Je rfl _ _ _ _ _ _ _ rfl (Vt B2.o ..) Tryz.underlying71 rfl (by kernel_rfl)) rfl ⟨y2,rfl,HD.o,HB.o⟩
open Go.ChangeShapes Go.WideShapes Go.ChangeAt
theorem jaz (a:Option Addr) (n c:Nat) (w:World):Calls Tryz.prog 169 #[.slice a n c] w fun e w'=>e=.returned (.int .i64 n)/\Below w.heap.size w w':=by
 go_enter Tryz.func169,Tryz.ntmps169;go_wp2_with fail
 go_ret;exact⟨rfl,zk⟩
theorem Ut (s:Bool) (a:Option Addr) (n c:Nat) (w:World) (hn:n<=281474976710656):Calls Tryz.prog 66 #[.agg #[.bool s,.slice a n c]] w fun e w'=>e=.returned (.int .i64 (1+(n:Int)))/\Below w.heap.size w w':=by
 have en:IntKind.i64.wrap (1+(n:Int))=1+(n:Int):=IntWalk.i64_in _ (by omega)
 have en2:wrap64 (1+(n:Int))=1+(n:Int):=by unfold wrap64;omega
 obtain⟨V,hV⟩:∃ V,V=w.alloc (.cells #[.bool s,.slice a n c] 26):=⟨_,rfl⟩
 have hbV:Below w.heap.size w V:=by rw[hV];exact zk.alloc zj _
 have B1:=qh (show Bxs V w.heap.size 26 [.bool s,.slice a n c] by rw[hV];exact Bxs.new w 26 [.bool s,.slice a n c]);have KG:=qh hbV;have HV:=qh hV;clear hV hbV;go_enter Tryz.func66,Tryz.ntmps66
 go_upto_region 1 with (fail)
 rw[show w.alloc (.cells #[.bool s,.slice a n c] 26)=V from HV.o.symm];have c0:=B1.o.ce 0;have c1:=B1.o.ce 1;go_wp2_with fail
 with_reducible refine(jaz _ _ _ _).mono ?_
 rintro e w1 ⟨rfl,hb⟩;have KG:=qk KG hb;have B1:=qh (B1.o.bl hb);clear hb c0 c1;go_wp2_with fail
 go_ret;exact⟨rfl,KG.o⟩
structure FZ (x:FV) (z:Int):Prop where
 lo:0<=z
 hi:z<=1000000000000000
 is:z<=1000->x.t.n<=z.toNat/\x.l.n<=z.toNat
def FSz (w:World) (x:FV) (e:Ending) (w':World):Prop:=∃ z:Int,e=.returned (.int .i64 z)/\FZ x z/\Below w.heap.size w w'
theorem Za (x:FV) (w:World) (ht:x.t.n<=281474976710656) (hl:x.l.n<=281474976710656):Calls Tryz.prog 11 #[x.v] w (FSz w x):=by
 have e1:IntKind.i64.wrap (1+(1+(x.t.n:Int)))=1+(1+(x.t.n:Int)):=IntWalk.i64_in _ (by omega)
 have e1b:wrap64 (1+(1+(x.t.n:Int)))=1+(1+(x.t.n:Int)):=by unfold wrap64;omega
 have e2:IntKind.i64.wrap (1+(1+(x.t.n:Int))+(1+(x.l.n:Int)))=1+(1+(x.t.n:Int))+(1+(x.l.n:Int)):=IntWalk.i64_in _ (by omega)
 have e2b:wrap64 (1+(1+(x.t.n:Int))+(1+(x.l.n:Int)))=1+(1+(x.t.n:Int))+(1+(x.l.n:Int)):=by unfold wrap64;omega
 obtain⟨V,hV⟩:∃ V,V=w.alloc (.cells #[.bool x.t.s,.slice x.t.a x.t.n x.t.c,.bool x.l.s,.slice x.l.a x.l.n x.l.c] 28):=⟨_,rfl⟩
 have hbV:Below w.heap.size w V:=by rw[hV];exact zk.alloc zj _
 have B1:=qh (show Bxs V w.heap.size 28 [.bool x.t.s,.slice x.t.a x.t.n x.t.c,.bool x.l.s,.slice x.l.a x.l.n x.l.c] by rw[hV];exact Bxs.new w 28 [.bool x.t.s,.slice x.t.a x.t.n x.t.c,.bool x.l.s,.slice x.l.a x.l.n x.l.c]);have KG:=qh hbV;have HV:=qh hV;clear hV hbV;change Calls Tryz.prog 11 #[.agg #[.bool x.t.s,.slice x.t.a x.t.n x.t.c,.bool x.l.s,.slice x.l.a x.l.n x.l.c]] w _;go_enter Tryz.func11,Tryz.ntmps11
 go_upto_region 1 with (fail)
 rw[show w.alloc (.cells #[.bool x.t.s,.slice x.t.a x.t.n x.t.c,.bool x.l.s,.slice x.l.a x.l.n x.l.c] 28)=V from HV.o.symm];have c0:=B1.o.ce 0;have c1:=B1.o.ce 1;have c2:=B1.o.ce 2;have c3:=B1.o.ce 3;go_wp2_with fail
 with_reducible refine(Ut _ _ _ _ _ ht).mono ?_
 rintro e w1 ⟨rfl,hb⟩;have KG:=qk KG hb;have B1:=qh (B1.o.bl hb);clear hb c0 c1 c2 c3;by_cases h:1+(1+(x.t.n:Int))<=1048576
 ·have c0:=B1.o.ce 0;have c1:=B1.o.ce 1;have c2:=B1.o.ce 2;have c3:=B1.o.ce 3;go_wp2_with fail
  with_reducible refine(Ut _ _ _ _ _ hl).mono ?_
  rintro e w2 ⟨rfl,hb⟩;have KG:=qk KG hb;clear hb c0 c1 c2 c3;go_wp2_with fail
  go_ret;exact⟨_,rfl,⟨by omega,by omega,fun _=>⟨by omega,by omega⟩⟩,KG.o⟩
 ·have h2:1048576<1+(1+(x.t.n:Int)):=by omega
  go_wp2_with fail
  go_ret;exact⟨_,rfl,⟨by omega,by omega,fun h=>by omega⟩,KG.o⟩
theorem jdk {H:Type} {enc:TypeId × Value->H} {W:World} {sp:Nat->Bool} {hd:Bool} {fuel:Nat} {v:Value} {x:DataW H × List MemPlace}
  (h:DataW.trod enc Tryz.prog W 0 sp hd fuel 24 [v]=some x) (hw:∀ k∈x.1.weights Tryz.prog 24,k<=reachBytes) {a:Option Addr} {n c:Nat} (hv:v=.slice a n c):n<=281474976710656:=by
 rcases DataW.trod_slice Tryz.underlying24 h with ⟨e,_⟩ | ⟨a',len,cap,elems,rest,m,_,e,hx,_,hl,_,hel,_,_⟩
 ·rw[hv] at e;simp only[List.cons.injEq,Value.slice.injEq,and_true] at e;omega
 ·rw[hv] at e;simp only[List.cons.injEq,Value.slice.injEq,and_true] at e;have h1:=hw ((elems.map (·.1)).length*1+0);rw[hx] at hw;have h2:=hw (((elems.map (·.1)).length+(rest.map (·.1)).length)*Tryz.prog.bytesOf 160) (by unfold DataW.weights;rw[Tryz.underlying24];exact List.mem_cons_self);rw[show Tryz.prog.bytesOf 160=4 by kernel_rfl,List.length_map,List.length_map] at h2
  have h3:reachBytes=140737488351232:=by decide
  omega
theorem X4 {H:Type} {t:TypeId} {fs:Array Field} (ht:Tryz.prog.underlying t=some (.struct fs)) {parts:List (DataW H)} {B:Nat} (hw:∀ k∈(DataW.agg parts).weights Tryz.prog t,k<=B) {i:Nat} {f:Field} (hf:fs[i]?=some f) {d:DataW H} (hd:parts[i]?=some d):∀ k∈d.weights Tryz.prog f.type,k<=B:=fun k hk=>by
 refine hw k ?_;unfold DataW.weights;rw[ht];exact DataW.weights_mem_each (t:=f.type) (by rw[List.getElem?_map,Array.getElem?_toList,hf];rfl) hd k hk
theorem Yu {H:Type} {e:TypeId} {k:Nat}:∀ {parts:List (DataW H)} {i:Nat} {d:DataW H},parts[i]?=some d->k∈d.weights Tryz.prog e->k∈DataW.weightsAll Tryz.prog e parts
 | [],_,_,h,_=>by simp at h
 | p :: r,0,d,h,hk=>by
  obtain rfl:p=d:=by simpa using h
  unfold DataW.weightsAll
  exact List.mem_append_left _ hk
 | p :: r,i+1,d,h,hk=>by
  unfold DataW.weightsAll;exact List.mem_append_right _ (Yu (by simpa using h) hk)
theorem ja0 {H:Type} {t e:TypeId} {n:Nat} (ht:Tryz.prog.underlying t=some (.array n e)) {parts:List (DataW H)} {B:Nat} (hw:∀ k∈(DataW.agg parts).weights Tryz.prog t,k<=B) {i:Nat} {d:DataW H} (hd:parts[i]?=some d):∀ k∈d.weights Tryz.prog e,k<=B:=fun k hk=>by
 refine hw k ?_;unfold DataW.weights;rw[ht];exact Yu hd hk
theorem Uu {H:Type} {enc:TypeId × Value->H} {W:World} {sp:Nat->Bool} {hd:Bool} {fuel:Nat} {l:List Value} {x:DataW H × List MemPlace}
  (hf:DataW.trod enc Tryz.prog W 0 sp hd fuel 26 l=some x) (hw:∀ k∈x.1.weights Tryz.prog 26,k<=reachBytes):∃ s a n c o,l=[.bool s,.slice a n c]/\Rd W a n o/\n<=c/\n<=281474976710656:=by
 obtain⟨xs,m,_,hx,hlen,hxl,hfld⟩:=DataW.trod_struct Tryz.underlying26 hf;have hlen:l.length=2:=hlen.trans Kc
 obtain⟨x0,x1,rfl⟩:∃ x0 x1,l=[x0,x1]:=by
  match l,hlen with
  | [x0,x1],_=>exact⟨x0,x1,rfl⟩
 have h0:DataW.trod enc Tryz.prog W 0 sp hd m 4 (([x0,x1].drop 0).take (Tryz.prog.cellsOf 4))=xs[0]?:=hfld 0 _ rfl;have h1:DataW.trod enc Tryz.prog W 0 sp hd m 24 (([x0,x1].drop 1).take (Tryz.prog.cellsOf 24))=xs[1]?:=hfld 1 _ rfl;have hx2:xs.length=2:=hxl;rw[List.getElem?_eq_getElem (by omega)] at h0;rw[List.getElem?_eq_getElem (by omega)] at h1;rw[VQ] at h0;rw[VR] at h1;obtain⟨s,e0,_⟩:=DataW.trod_bool Tryz.underlying4 h0;obtain⟨a,n,c,o,e1,hr,hl⟩:=open_list (v:=x1) h1
 have e0:x0=.bool s:=by
  have:[x0]=[Value.bool s]:=e0
  simpa using this
 rw[hx] at hw;have hn:=jdk (v:=x1) h1 (X4 Tryz.underlying26 hw (i:=1) rfl (by rw[List.getElem?_map,List.getElem?_eq_getElem (by omega)];rfl)) e1;exact⟨s,a,n,c,o,by rw[e0,e1],hr,hl,hn⟩
structure AQ (w:World) (x:FV):Prop where
 af:∃ q,AF w x q
 cs:(∃ q,KF w x q)\/BF w x
 t:x.t.n<=281474976710656
 l:x.l.n<=281474976710656
theorem ja1 {H:Type} {enc:TypeId × Value->H} {W:World} {sp:Nat->Bool} {hd:Bool} {fuel:Nat} {l:List Value} {x:DataW H × List MemPlace}
  (hf:DataW.trod enc Tryz.prog W 0 sp hd fuel 28 l=some x) (hw:∀ k∈x.1.weights Tryz.prog 28,k<=reachBytes):∃ y:FV,l=[.bool y.t.s,.slice y.t.a y.t.n y.t.c,.bool y.l.s,.slice y.l.a y.l.n y.l.c]/\AQ W y:=by
 obtain⟨xs,m,_,hx,hlen,hxl,hfld⟩:=DataW.trod_struct Tryz.underlying28 hf;have hlen:l.length=4:=hlen.trans Zz
 obtain⟨x0,x1,x2,x3,rfl⟩:∃ x0 x1 x2 x3,l=[x0,x1,x2,x3]:=by
  match l,hlen with
  | [x0,x1,x2,x3],_=>exact⟨x0,x1,x2,x3,rfl⟩
 have h0:DataW.trod enc Tryz.prog W 0 sp hd m 26 (([x0,x1,x2,x3].drop 0).take (Tryz.prog.cellsOf 26))=xs[0]?:=hfld 0 _ rfl;have h1:DataW.trod enc Tryz.prog W 0 sp hd m 26 (([x0,x1,x2,x3].drop 2).take (Tryz.prog.cellsOf 26))=xs[1]?:=hfld 1 _ rfl;have hx2:xs.length=2:=hxl;rw[List.getElem?_eq_getElem (by omega)] at h0;rw[List.getElem?_eq_getElem (by omega)] at h1;rw[Kc] at h0 h1;rw[hx] at hw;obtain⟨s1,a1,n1,c1,o1,e1,r1,l1,w1⟩:=Uu h0 (X4 Tryz.underlying28 hw (i:=0) rfl (by rw[List.getElem?_map,List.getElem?_eq_getElem (by omega)];rfl));obtain⟨s2,a2,n2,c2,o2,e2,r2,l2,w2⟩:=Uu h1 (X4 Tryz.underlying28 hw (i:=1) rfl (by rw[List.getElem?_map,List.getElem?_eq_getElem (by omega)];rfl));have e1:[x0,x1]=[.bool s1,.slice a1 n1 c1]:=e1;have e2:[x2,x3]=[.bool s2,.slice a2 n2 c2]:=e2;simp only[List.cons.injEq,and_true] at e1 e2;refine⟨⟨⟨s1,a1,n1,c1⟩,⟨s2,a2,n2,c2⟩⟩,by rw[e1.1,e1.2,e2.1,e2.2],⟨_,AF.raw r1 l1 r2 l2⟩,?_,w1,w2⟩;by_cases hk:okF s1 n1 o1 s2 n2 o2
 ·exact Or.inl ⟨_,KF.raw r1 l1 r2 l2 hk⟩
 ·exact Or.inr (BF.raw r1 l1 r2 l2 hk)
theorem ja2 {H:Type} {ts:List TypeId} {ds:List (DataW H)} (h:(DataW.weightsEach Tryz.prog ts ds).all (·<=reachBytes)=true) {j:Nat} {t:TypeId} {d:DataW H} (ht:ts[j]?=some t) (hd:ds[j]?=some d):∀ k∈d.weights Tryz.prog t,k<=reachBytes:=fun k hk=>by
 have h1:=List.all_eq_true.1 h k (DataW.weights_mem_each ht hd k hk)
 simpa using h1
theorem jgl:Tryz.prog.cellsOf 58=16:=by kernel_rfl
theorem jgm {H:Type} {enc:TypeId × Value->H} {w:World} {base:Nat} {spare:Nat->Bool} {held:Bool} {t e:TypeId} {n fuel:Nat} {cs:List Value} {x:DataW H × List MemPlace} (ht:Tryz.prog.underlying t=some (.array n e))
  (h:DataW.trod enc Tryz.prog w base spare held fuel t cs=some x):∃ (m:Nat) (ys:List (DataW H × List MemPlace)),x.1=.agg (ys.map (·.1))/\∀ i,i<n->∃ y,ys[i]?=some y/\DataW.trod enc Tryz.prog w base spare held m e ((cs.drop (i*Tryz.prog.cellsOf e)).take (Tryz.prog.cellsOf e))=some y:=by
 cases fuel with
 | zero=>simp[DataW.trod] at h
 | succ m =>
  unfold DataW.trod at h;rw[ht] at h;dsimp only at h;by_cases hlen:cs.length=Tryz.prog.cellsOf t
  ·rw[if_pos hlen] at h;obtain⟨ys,hy,hx⟩:=Option.map_eq_some_iff.1 h;refine⟨m,ys,by rw[<- hx],fun i hi=>?_⟩;have h1:=mapM_some_get hy i i (List.getElem?_range hi);obtain⟨y,h2⟩:=LawPost.mapM_each _ _ _ hy i (List.mem_range.2 hi);exact⟨y,by rw[<- h1,h2],h2⟩
  ·rw[if_neg hlen] at h;cases h
theorem jdl {H:Type} {enc:TypeId × Value->H} {W:World} {base:Nat} {r:Reach} {sp:Nat->Bool} {hd:Bool} {v:Value} {d:DataW H} {p:List MemPlace}
  (hok:Value.okWide Tryz.prog W r base 58 v) (h:DataW.Trod enc Tryz.prog W 0 sp hd 58 v d p) (hw:∀ k∈d.weights Tryz.prog 58,k<=reachBytes) :
  ∃ y0 y1 y2 y3:FV,v=.agg #[.bool y0.t.s,.slice y0.t.a y0.t.n y0.t.c,.bool y0.l.s,.slice y0.l.a y0.l.n y0.l.c,.bool y1.t.s,.slice y1.t.a y1.t.n y1.t.c,.bool y1.l.s,.slice y1.l.a y1.l.n y1.l.c,.bool y2.t.s,.slice y2.t.a y2.t.n y2.t.c,.bool y2.l.s,.slice y2.l.a y2.l.n y2.l.c,.bool y3.t.s,.slice y3.t.a y3.t.n y3.t.c,.bool y3.l.s,.slice y3.l.a y3.l.n y3.l.c]/\AQ W y0/\AQ W y1/\AQ W y2/\AQ W y3:=by
 obtain⟨cs,rfl,_⟩:∃ cs,v=.agg cs/\True:=by
  unfold Value.okWide at hok;rw[Tryz.underlying58] at hok;obtain⟨cs,h1,_⟩:=hok;exact⟨cs,h1,trivial⟩
 obtain⟨fuel,hf⟩:=h;obtain⟨l⟩:=cs;have hf:DataW.trod enc Tryz.prog W 0 sp hd fuel 58 l=some (d,p):=hf;have hlen:l.length=16:=(LawPost.Vf Tryz.underlying58 hf).1.trans jgl;obtain⟨m,ys,hd1,h2⟩:=jgm Tryz.underlying58 hf;have hd1:d=.agg (ys.map (·.1)):=hd1;rw[hd1] at hw
 have key:∀ i,i<4->∃ y:FV,(l.drop (i*4)).take 4=[.bool y.t.s,.slice y.t.a y.t.n y.t.c,.bool y.l.s,.slice y.l.a y.l.n y.l.c]/\AQ W y:=fun i hi=>by
  obtain⟨y,h3,h4⟩:=h2 i hi;rw[Zz] at h4;exact ja1 h4 (ja0 Tryz.underlying58 hw (i:=i) (by rw[List.getElem?_map,h3];rfl))
 obtain⟨y0,e0,a0⟩:=key 0 (by omega);obtain⟨y1,e1,a1⟩:=key 1 (by omega);obtain⟨y2,e2,a2⟩:=key 2 (by omega);obtain⟨y3,e3,a3⟩:=key 3 (by omega);refine⟨y0,y1,y2,y3,?_,a0,a1,a2,a3⟩
 obtain⟨z0,z1,z2,z3,z4,z5,z6,z7,z8,z9,z10,z11,z12,z13,z14,z15,rfl⟩:∃ z0 z1 z2 z3 z4 z5 z6 z7 z8 z9 z10 z11 z12 z13 z14 z15,l=[z0,z1,z2,z3,z4,z5,z6,z7,z8,z9,z10,z11,z12,z13,z14,z15]:=by
  match l,hlen with
  | [z0,z1,z2,z3,z4,z5,z6,z7,z8,z9,z10,z11,z12,z13,z14,z15],_=>exact⟨_,_,_,_,_,_,_,_,_,_,_,_,_,_,_,_,rfl⟩
 have e0:[z0,z1,z2,z3]=_:=e0;have e1:[z4,z5,z6,z7]=_:=e1;have e2:[z8,z9,z10,z11]=_:=e2;have e3:[z12,z13,z14,z15]=_:=e3;simp only[List.cons.injEq,and_true] at e0 e1 e2 e3;rw[e0.1,e0.2.1,e0.2.2.1,e0.2.2.2,e1.1,e1.2.1,e1.2.2.1,e1.2.2.2,e2.1,e2.2.1,e2.2.2.1,e2.2.2.2,e3.1,e3.2.1,e3.2.2.1,e3.2.2.2]
end Pol
namespace Pol
open Go.RowKit Go.Sort Limb
theorem slope1_i (t:TV) (q:Rat) (w:World) (af:AF w t.c q) (lf:LF t.c 900000) (li:Nat) (hi:li<4) (bc:Nat) (hc:Bxs w bc 3 [.int .i64 (li:Int)]) (hs:(t.m.at li)<=65535):Calls Tryz.prog 127 #[TV.v t,.pointer (some ⟨bc,0,none⟩)] w fun en w'=>∃ y:FV,en=.returned (TV.v ⟨y,t.m.dec li⟩)/\DF w' w.heap.size y (q*((t.m.at li):Rat))/\Below w.heap.size w w':=by
 have LQq:=qh (af.len lf);have HLNF:=qh lf;obtain⟨V,hV⟩:∃ V,V=(w.alloc (.cells #[.bool t.c.t.s,.slice t.c.t.a t.c.t.n t.c.t.c,.bool t.c.l.s,.slice t.c.l.a t.c.l.n t.c.l.c,.int .u16 t.m.x,.int .u16 t.m.y,.int .u16 t.m.z,.int .u16 t.m.t] 71)).alloc (.cells #[.bool false,.slice none 0 0,.bool false,.slice none 0 0,.int .u16 0,.int .u16 0,.int .u16 0,.int .u16 0] 71):=⟨_,rfl⟩
 have hbV:Below w.heap.size w V:=by rw[hV];exact(zk.alloc zj _).alloc (by go_size) _
 have B1:=qh (show Bxs V w.heap.size 71 [.bool t.c.t.s,.slice t.c.t.a t.c.t.n t.c.t.c,.bool t.c.l.s,.slice t.c.l.a t.c.l.n t.c.l.c,.int .u16 t.m.x,.int .u16 t.m.y,.int .u16 t.m.z,.int .u16 t.m.t] by rw[hV];exact(Bxs.new w 71 [.bool t.c.t.s,.slice t.c.t.a t.c.t.n t.c.t.c,.bool t.c.l.s,.slice t.c.l.a t.c.l.n t.c.l.c,.int .u16 t.m.x,.int .u16 t.m.y,.int .u16 t.m.z,.int .u16 t.m.t]).alloc _)
 have B2:=qh (show Bxs V (w.heap.size+1) 71 [.bool false,.slice none 0 0,.bool false,.slice none 0 0,.int .u16 0,.int .u16 0,.int .u16 0,.int .u16 0] by
  have h:=Bxs.new (w.alloc (.cells #[.bool t.c.t.s,.slice t.c.t.a t.c.t.n t.c.t.c,.bool t.c.l.s,.slice t.c.l.a t.c.l.n t.c.l.c,.int .u16 t.m.x,.int .u16 t.m.y,.int .u16 t.m.z,.int .u16 t.m.t] 71)) 71 [.bool false,.slice none 0 0,.bool false,.slice none 0 0,.int .u16 0,.int .u16 0,.int .u16 0,.int .u16 0];rw[World.size_alloc] at h
  rw[hV];exact h)
 have KG:=qh hbV;obtain⟨A1,hA1⟩:∃ A,A=w.heap.size:=⟨_,rfl⟩;obtain⟨A2,hA2⟩:∃ A,A=w.heap.size+1:=⟨_,rfl⟩;have HA2:=qh (show w.heap.size<=A2 by omega);have HSZ:=qh (show w.heap.size<=V.heap.size from hbV.size);have NF:=qh (af.below hbV);have HI:=qh hi
 have hi1:(li:Int)<4:=by omega
 have hi2:¬((li:Int)<0):=by omega
 have hi3:(0:Int)<=(li:Int):=by omega
 have HN12:=qh (show A2≠A1 by omega);have HA1:=qh (show w.heap.size<=A1 by omega);have HNC:=qh (show bc≠A1 by have:=hc.lt;omega);have BC:=qh (hc.below hbV hc.lt);have HEW:=qh (show IntKind.i64.wrap ((t.m.at li):Int)=((t.m.at li):Int) from IntWalk.i64_in _ (by omega))
 have e1:IntKind.u16.wrap (max ((t.m.at li):Int) 1-1)=(((t.m.at li)-1:Nat):Int):=by rw[IntWalk.u16_in _ (by omega)];omega
 clear hc hi;clear af lf;change Calls Tryz.prog 127 #[.agg #[.bool t.c.t.s,.slice t.c.t.a t.c.t.n t.c.t.c,.bool t.c.l.s,.slice t.c.l.a t.c.l.n t.c.l.c,.int .u16 t.m.x,.int .u16 t.m.y,.int .u16 t.m.z,.int .u16 t.m.t],.pointer (some ⟨bc,0,none⟩)] w _;go_enter Tryz.func127,Tryz.ntmps127
 go_upto_region 1 with (fail)
 rw[<- hV,<- hA2,<- hA1];rw[<- hA1] at B1;rw[<- hA2] at B2;clear hV hbV hA1 hA2;have cB10:=B1.o.ce 0;have cB11:=B1.o.ce 1;have cB12:=B1.o.ce 2;have cB13:=B1.o.ce 3;have cB14:=B1.o.ce 4;have cB15:=B1.o.ce 5;have cB16:=B1.o.ce 6;have cB17:=B1.o.ce 7;have cB1f:=B1.o.fz;have cB1l:=B1.o.lt;have cBL:=B1.o.cell (i:=4+li) (jes _ _ _ _ _ HI.o);have cc0:=BC.o.ce 0
 go_upto_region 2 with (fail)
 clear cB10 cB11 cB12 cB13 cB14 cB15 cB16 cB17 cB1f cB1l;clear cc0 cBL;obtain⟨q101,hq101⟩:∃ z:Rat,z=((IntKind.i64.wrap ((t.m.at li):Int):Int):Rat):=⟨_,rfl⟩;have Hq101:=qh hq101;have LQq101:=qh (show LQ q101 3 by rw[hq101];exact LQ.int (by rw[HEW.o];omega) (by rw[HEW.o];omega));clear hq101;obtain⟨q102,hq102⟩:∃ z:Rat,z=q*q101:=⟨_,rfl⟩;have Hq102:=qh hq102;have LQq102:=qh (show LQ q102 1800002 by rw[hq102];exact LQ.mul (LQq.o.up (by decide:_<=900001)) (LQq101.o.up (by decide:_<=900001)) (by decide));clear hq102
 go_upto_region 2 with (fail)
 refine FS.Jc 7 [] (FS.JM [(4,FS.Sp.made (fun x:FV=>x.v) (fun x w'=>DF w' V.heap.size x q101) FV.blk),(5,FS.Sp.made (fun x:FV=>x.v) (fun x w'=>DF w' V.heap.size x q102) FV.blk)])
  (fun w'=>Below V.heap.size V w') (by kernel_rfl) (by kernel_rfl) (by kernel_rfl)
  (FS.Jd (FS.Sp.Jg _ (fun _ _ _ h _ hk=>h.kept hk) (FS.JJ (by kernel_rfl))) (FS.Jd (FS.Sp.Jg _ (fun _ _ _ h _ hk=>h.kept hk) (FS.JJ (by kernel_rfl))) (FS.Jl))) (fun _ _ h hb=>h.trans (hb.mono h.size)) (zk.drew) ?_
 simp only[zu,zi,ze,zx,zy,zv,zw]
 iterate 4
  refine FS.Jb rfl rfl rfl ?_ (fun w' hw'=>?_) ?_;rotate_left
  ·have hb':=hw'.world;have hs0:=(B1.o.bl hb').ce 0;have hs1:=(B1.o.bl hb').ce 1;have hs2:=(B1.o.bl hb').ce 2;have hs3:=(B1.o.bl hb').ce 3;have hs4:=(B1.o.bl hb').ce 4;have hs5:=(B1.o.bl hb').ce 5;have hs6:=(B1.o.bl hb').ce 6;have hs7:=(B1.o.bl hb').ce 7;have hsf:=(B1.o.bl hb').fz;have hsl:=(B1.o.bl hb').lt;clear hw';go_simp
   try rfl
  conv=>arg 10;simp only[Act.put,zq0,zq1,zq2]
 refine FS.Jf rfl rfl rfl (fun w' hw'=>?_) ?_
 ·have hb':=hw'.world;refine FS.Jo (FS.PM (fun x:FV=>x.v) (fun x w'=>DF w' V.heap.size x q101) FV.blk w'.heap.size) ?_ (fun _ _ h=>h.post (fun _ _=>FV.inj));go_simp;have CT:=qof (IntKind.i64.wrap ((t.m.at li):Int)) w' (by rw[HEW.o];omega) (by rw[HEW.o];omega);rw[show((IntKind.i64.wrap ((t.m.at li):Int):Int):Rat)=q101 from Hq101.o.symm] at CT;refine CT.mono ?_;rintro e w'' ⟨za,rfl,ho,hb⟩;exact⟨_,rfl,⟨za,rfl,ho.mono hb'.size,ho.QY⟩,hb⟩
 rintro _ ⟨y4,rfl⟩
 conv=>arg 10;simp only[Act.put,zq0,zq1,zq2]
 refine FS.Jf rfl rfl rfl (fun w' hw'=>?_) ?_
 ·have hb':=hw'.world;refine FS.Jo (FS.PM (fun x:FV=>x.v) (fun x w'=>DF w' V.heap.size x q102) FV.blk w'.heap.size) ?_ (fun _ _ h=>h.post (fun _ _=>FV.inj));go_simp;have f4:=FS.JE (val:=(fun x:FV=>x.v)) (Φ:=fun x w'=>DF w' V.heap.size x q101) (fun _ _=>FV.inj) (hw'.fact 4 (by kernel_rfl));have CT:=qmul (NF.o.below hb') (LF.up HLNF.o (by decide:_<=900000)) (f4).k.any (((f4).k).len LQq101.o (by decide:_<=900000));rw[show q*q101=q102 from Hq102.o.symm] at CT;refine CT.mono ?_;rintro e w'' ⟨za,rfl,ho,hb⟩;exact⟨_,rfl,⟨za,rfl,ho.mono hb'.size,ho.QY⟩,hb⟩
 rintro _ ⟨y5,rfl⟩
 conv=>arg 10;simp only[Act.put,zq0,zq1,zq2]
 refine FS.Jb rfl rfl rfl ?_ (fun w' hw'=>?_) ?_;rotate_left
 ·have hb':=hw'.world;skip;clear hw';go_simp
  try rfl
 conv=>arg 10;simp only[Act.put,zq0,zq1,zq2]
 refine FS.Jn (fun w103 hb hF=>?_);have N104:=qh (show DF w103 V.heap.size y5 q102 from(FS.JE (val:=(fun x:FV=>x.v)) (Φ:=fun x w'=>DF w' V.heap.size x q102) (fun _ _=>FV.inj) (hF.all 5)));clear hF;have NF:=qh (NF.o.below hb);have B1:=qh (B1.o.bl hb);have B2:=qh (B2.o.bl hb);have BC:=qh (BC.o.bl hb);have KG:=qk KG hb;clear hb;have cB10:=B1.o.ce 0;have cB11:=B1.o.ce 1;have cB12:=B1.o.ce 2;have cB13:=B1.o.ce 3;have cB14:=B1.o.ce 4;have cB15:=B1.o.ce 5;have cB16:=B1.o.ce 6;have cB17:=B1.o.ce 7;have cB1f:=B1.o.fz;have cB1l:=B1.o.lt
 go_upto_region 3 with (fail)
 clear cB10 cB11 cB12 cB13 cB14 cB15 cB16 cB17 cB1f cB1l;obtain⟨U,hU⟩:∃ U,U=(((w103.setCell ⟨A1,0,none⟩ (.bool y5.t.s)).setCell ⟨A1,1,none⟩ (.slice y5.t.a y5.t.n y5.t.c)).setCell ⟨A1,2,none⟩ (.bool y5.l.s)).setCell ⟨A1,3,none⟩ (.slice y5.l.a y5.l.n y5.l.c):=⟨_,rfl⟩;have HD:=qh (show DF U V.heap.size y5 q102 by rw[hU];exact((((N104.o.Jr B1.o (by decide) 0 _).Jr (B1.o.put 0 _) (by decide) 1 _).Jr ((B1.o.put 0 _).put 1 _) (by decide) 2 _).Jr (((B1.o.put 0 _).put 1 _).put 2 _) (by decide) 3 _));have KG:=qh (show Below w.heap.size w U by rw[hU];exact((((KG.o.setCell HA1.o _).setCell HA1.o _).setCell HA1.o _).setCell HA1.o _));have B2:=qh (show Bxs U A2 71 [.bool false,.slice none 0 0,.bool false,.slice none 0 0,.int .u16 0,.int .u16 0,.int .u16 0,.int .u16 0] by rw[hU];exact((((B2.o.other HN12.o _).other HN12.o _).other HN12.o _).other HN12.o _));have BC:=qh (show Bxs U bc 3 [.int .i64 (li:Int)] by rw[hU];exact((((BC.o.other HNC.o _).other HNC.o _).other HNC.o _).other HNC.o _));have B1:=qh (show Bxs U A1 71 [.bool y5.t.s,.slice y5.t.a y5.t.n y5.t.c,.bool y5.l.s,.slice y5.l.a y5.l.n y5.l.c,.int .u16 t.m.x,.int .u16 t.m.y,.int .u16 t.m.z,.int .u16 t.m.t] by rw[hU];exact((((B1.o.put 0 _).put 1 _).put 2 _).put 3 _));rw[<- hU];clear hU;have cB10:=B1.o.ce 0;have cB11:=B1.o.ce 1;have cB12:=B1.o.ce 2;have cB13:=B1.o.ce 3;have cB14:=B1.o.ce 4;have cB15:=B1.o.ce 5
 have cB16:=B1.o.ce 6;have cB17:=B1.o.ce 7;have cB1f:=B1.o.fz;have cB1l:=B1.o.lt;have cBL:=B1.o.cell (i:=4+li) (jes _ _ _ _ _ HI.o);have cc0:=BC.o.ce 0
 go_upto_region 4 with (fail)
 clear cB10 cB11 cB12 cB13 cB14 cB15 cB16 cB17 cB1f cB1l;clear cc0 cBL;obtain⟨U2,hU2⟩:∃ U2,U2=U.setCell ⟨A1,4+li,none⟩ (.int .u16 (((t.m.at li)-1:Nat):Int)):=⟨_,rfl⟩;have HD:=qh (show DF U2 V.heap.size y5 q102 by rw[hU2];exact HD.o.Jr B1.o (by decide) (4+li) _);have KG:=qh (show Below w.heap.size w U2 by rw[hU2];exact KG.o.setCell HA1.o _);have B2:=qh (show Bxs U2 A2 71 [.bool false,.slice none 0 0,.bool false,.slice none 0 0,.int .u16 0,.int .u16 0,.int .u16 0,.int .u16 0] by rw[hU2];exact B2.o.other HN12.o _);have B1:=qh (show Bxs U2 A1 71 [.bool y5.t.s,.slice y5.t.a y5.t.n y5.t.c,.bool y5.l.s,.slice y5.l.a y5.l.n y5.l.c,.int .u16 (t.m.dec li).x,.int .u16 (t.m.dec li).y,.int .u16 (t.m.dec li).z,.int .u16 (t.m.dec li).t] by rw[hU2];exact put_dec B1.o HI.o);rw[<- hU2];clear hU2;have cB10:=B1.o.ce 0;have cB11:=B1.o.ce 1;have cB12:=B1.o.ce 2;have cB13:=B1.o.ce 3;have cB14:=B1.o.ce 4;have cB15:=B1.o.ce 5;have cB16:=B1.o.ce 6;have cB17:=B1.o.ce 7;have cB1f:=B1.o.fz;have cB1l:=B1.o.lt;have cB20:=B2.o.ce 0;have cB21:=B2.o.ce 1;have cB22:=B2.o.ce 2;have cB23:=B2.o.ce 3;have cB24:=B2.o.ce 4;have cB25:=B2.o.ce 5;have cB26:=B2.o.ce 6;have cB27:=B2.o.ce 7;have cB2f:=B2.o.fz;have cB2l:=B2.o.lt;have HQ:=qh (show q102=q*((t.m.at li):Rat) by rw[Hq102.o,Hq101.o,HEW.o];rfl)
 have HD2:=qh (show DF (Zg U2 A2 (.bool y5.t.s) (.slice y5.t.a y5.t.n y5.t.c) (.bool y5.l.s) (.slice y5.l.a y5.l.n y5.l.c) (.int .u16 (t.m.dec li).x) (.int .u16 (t.m.dec li).y) (.int .u16 (t.m.dec li).z) (.int .u16 (t.m.dec li).t)) w.heap.size y5 (q*((t.m.at li):Rat)) from by rw[<- HQ.o];exact jet (HD.o.mono HSZ.o) B2.o (by decide) ..);have HB:=qh (show Below w.heap.size w (Zg U2 A2 (.bool y5.t.s) (.slice y5.t.a y5.t.n y5.t.c) (.bool y5.l.s) (.slice y5.l.a y5.l.n y5.l.c) (.int .u16 (t.m.dec li).x) (.int .u16 (t.m.dec li).y) (.int .u16 (t.m.dec li).z) (.int .u16 (t.m.dec li).t)) from ZW KG.o HA2.o ..);go_wp2_with fail
 exact bodyPost_ret (Je rfl _ _ _ _ _ _ _ rfl (Vt B2.o ..) Tryz.underlying71 rfl (by kernel_rfl)) rfl ⟨y5,rfl,HD2.o,HB.o⟩
theorem jdm (i:Nat) (hi:i<4) (t:TV) (q:Rat) (w:World) (af:AF w t.c q) (lf:LF t.c 900000) (bc:Nat) (hc:Bxs w bc 3 [.int .i64 (i:Int)]) (hs:t.m.Small) :
  Calls Tryz.prog 127 #[TV.v t,.pointer (some ⟨bc,0,none⟩)] w fun en w'=>∃ y:FV,en=.returned (TV.v ⟨y,t.m.dec i⟩)/\DF w' w.heap.size y (q*(t.m.at i:Rat))/\Below w.heap.size w w':=by
 exact slope1_i t q w af lf i hi bc hc (Kl hs i)
theorem Uv {m:Mo} (h:m.Small) (i:Nat):(m.dec i).Small:=by
 obtain⟨h1,h2,h3,h4⟩:=h;unfold Mo.dec;split
 ·exact⟨by show m.x-1<=_;omega,h2,h3,h4⟩
 ·split
  ·exact⟨h1,by show m.y-1<=_;omega,h3,h4⟩
  ·split
   ·exact⟨h1,h2,by show m.z-1<=_;omega,h4⟩
   ·exact⟨h1,h2,h3,by show m.t-1<=_;omega⟩
theorem lq_at {m:Mo} (h:m.Small) (i:Nat) {q:Rat} {k:Nat} (hq:LQ q k):LQ (q*(m.at i:Rat)) (k+3):=by
 have h1:=Kl h i;have h2:LQ (((m.at i:Nat):Int):Rat) 3:=LQ.int (by omega) (by omega);exact(hq.ls.mul h2.ls).lq zj zj
theorem slope_k (i:Nat) (hi:i<4) (x:PV) (P:List Tm) (k:Nat) (w:World) (hx:KP w x P) (hp:∀ t∈P,LQ t.2 k) (hn:P.length<=1000000) (hk:P.length*(k+4)<=900000) (hk9:k<=900000) :
  Calls Tryz.prog 28 #[x.v,.int .i64 (i:Int)] w fun e w'=>∃ y:PV,e=.returned (.tuple #[y.v,.int .i64 0])/\DP w' w.heap.size y (Zj P i)/\Below w.heap.size w w':=by
 have B1:=qh (Bxs.new w 3 [.int .i64 (i:Int)]);obtain⟨V,hV⟩:∃ V,V=w.alloc (.cells #[.int .i64 (i:Int)] 3):=⟨_,rfl⟩
 have hbV:Below w.heap.size w V:=by rw[hV];exact zk.alloc zj _
 have B1:=qh (show Bxs V w.heap.size 3 [.int .i64 (i:Int)] by rw[hV];exact B1.o);have hxl:=hx.len;have CK:=qh (Y6 (hx.below hbV) (fun t ht=>(hp t ht).up hk9) (by omega));have HX:=qh hx;have HP:=qh hp;have HN:=qh hn;have HK:=qh hk;have HI:=qh hi;have HK9:=qh hk9;have HXL:=qh hxl;have KG:=qh hbV;have HV:=qh hV
 have h1:¬((i:Int)<0):=by omega
 have h2:¬((4:Int)<=(i:Int)):=by omega
 have h3:¬((i:Int) ≥ 4):=by omega
 obtain⟨xa,xn,xc⟩:=x;clear hV hbV hx hp hn hk hi hxl hk9;change Calls Tryz.prog 28 #[.slice xa xn xc,.int .i64 (i:Int)] w _;go_enter Tryz.func28,Tryz.ntmps28
 go_upto_region 1 with (fail)
 rw[show w.alloc (.cells #[.int .i64 (i:Int)] 3)=V from HV.o.symm];have c0:=B1.o.ce 0;go_wp2_with fail
 with_reducible refine CK.o.mono ?_
 rintro e w1 ⟨rfl,hb⟩;have KG:=qk KG hb;have B1:=qh (B1.o.bl hb);clear hb CK c0;have c0:=B1.o.ce 0;obtain⟨L,hR,hK,hLP⟩:=(HX.o.below KG.o).rowA (fun t ht=>(HP.o t ht).up HK9.o)
 have hl:L.length=P.length:=by rw[<- hLP,List.length_map]
 have hmem:∀ e∈L,tm e∈P:=fun e he=>by rw[<- hLP];exact List.mem_map_of_mem he
 have WT:=qh (with_any 127 #[.pointer (some ⟨w.heap.size,0,none⟩)] ⟨xa,xn,xc⟩ L (fun e=>(e.1.m.dec i,e.2*(e.1.m.at i:Rat))) (k+3) w1 hR (by rw[hl];exact HN.o)
  (by rw[hl];exact HK.o) (fun _ _=>by kernel_rfl)
  (fun e he w2 hb2 ha hl2=>jdm i HI.o e.1 e.2 w2 ha hl2 w.heap.size (B1.o.bl hb2) (HX.o.small _ (hmem e he)))
  (fun e he=>Uv (HX.o.small _ (hmem e he)) i) (fun e he=>lq_at (HX.o.small _ (hmem e he)) i (HP.o _ (hmem e he))))
 have HL:=qh hLP;clear hR hK hLP hl hmem;go_wp2_with fail
 with_reducible refine WT.o.mono ?_
 rintro e w2 ⟨y,rfl,hy,hb2⟩;have HY:=qh hy;have HB2:=qh hb2;clear hy hb2 WT c0;go_wp2_with fail
 go_ret2;refine⟨y,rfl,?_,KG.o.trans (HB2.o.mono KG.o.size)⟩
 have e1:Zj P i=nf (L.map fun e=>(e.1.m.dec i,e.2*(e.1.m.at i:Rat))):=by
  unfold Zj jah;rw[<- HL.o,List.map_map];rfl
 rw[e1];exact HY.o.mono KG.o.size
end Pol
namespace Book
open Go.RowKit Go.Sort Go.FreshG Limb Pol
def Qm:List TV->Nat->List HL
 | [],_=>[]
 | t :: r,q=>⟨t.c.t.a,t.c.t.n,t.c.t.c,q⟩ :: ⟨t.c.l.a,t.c.l.n,t.c.l.c,q+1⟩ :: Qm r (q+2)
theorem Zb:∀ (ts:List TV) (q:Nat),(Qm ts q).length=2*ts.length
 | [],_=>rfl
 | t :: r,q=>by
  show(Qm r (q+2)).length+1+1=2*(r.length+1);rw[Zb r (q+2)];omega
theorem Yv:∀ (ts:List TV) (t:TV) (q:Nat),Qm (ts++[t]) q=Qm ts q++[⟨t.c.t.a,t.c.t.n,t.c.t.c,q+2*ts.length⟩]++[⟨t.c.l.a,t.c.l.n,t.c.l.c,q+2*ts.length+1⟩]
 | [],t,q=>rfl
 | s :: r,t,q=>by
  show(⟨s.c.t.a,s.c.t.n,s.c.t.c,q⟩:HL) :: ⟨s.c.l.a,s.c.l.n,s.c.l.c,q+1⟩ :: Qm (r++[t]) (q+2)=⟨s.c.t.a,s.c.t.n,s.c.t.c,q⟩ :: ⟨s.c.l.a,s.c.l.n,s.c.l.c,q+1⟩ :: (Qm r (q+2)++[_]++[_]);rw[Yv r t (q+2),List.length_cons,show q+2+2*r.length=q+2*(r.length+1) by omega]
theorem RE.Q4 {base:Nat} {w w':World} {b o i:Nat} {t:TV} (h:RE w b o i t) (hk:Qw base w w') (hb:b<base):RE w' b o i t :=
 ⟨Nat.lt_of_lt_of_le h.lt hk.bel.size,fun j v hj=>(World.cell?_of_block (a:=⟨b,o+i*8+j,none⟩) (hk.bel.block b hb)).trans (h.cell j v hj)⟩
theorem BkS.term {w:World} {b base q:Nat} {L M:List HL} (h:BkS w b base q L M) (hk:L.length<=29990) (hq:q<=59990) (t:TV) :
  Calls Tryz.prog 45 #[.pointer (some ⟨b,0,none⟩),TV.v t] w (Y0 b base (q+2) (fracL L q t.c.t.a t.c.t.n t.c.t.c t.c.l.a t.c.l.n t.c.l.c) M w):=by
 obtain⟨V,hV⟩:∃ V,V=w.alloc (.cells #[.bool t.c.t.s,.slice t.c.t.a t.c.t.n t.c.t.c,.bool t.c.l.s,.slice t.c.l.a t.c.l.n t.c.l.c,.int .u16 t.m.x,.int .u16 t.m.y,.int .u16 t.m.z,.int .u16 t.m.t] 71):=⟨_,rfl⟩;have HS:=qh (show BkS V b base q L M by rw[hV];exact h.alloc _);have HA:=qh (show Qw base w V by rw[hV];exact Qw.alloc h.hw _);have B3:=qh (show Bxs V w.heap.size 71 [.bool t.c.t.s,.slice t.c.t.a t.c.t.n t.c.t.c,.bool t.c.l.s,.slice t.c.l.a t.c.l.n t.c.l.c,.int .u16 t.m.x,.int .u16 t.m.y,.int .u16 t.m.z,.int .u16 t.m.t] by rw[hV];exact Bxs.new w 71 [.bool t.c.t.s,.slice t.c.t.a t.c.t.n t.c.t.c,.bool t.c.l.s,.slice t.c.l.a t.c.l.n t.c.l.c,.int .u16 t.m.x,.int .u16 t.m.y,.int .u16 t.m.z,.int .u16 t.m.t]);have HV:=qh hV;have K:=qh (HS.o.frac hk hq t.c.t.s t.c.t.a t.c.t.n t.c.t.c t.c.l.s t.c.l.a t.c.l.n t.c.l.c);clear h hk hq hV;change Calls Tryz.prog 45 #[.pointer (some ⟨b,0,none⟩),.agg #[.bool t.c.t.s,.slice t.c.t.a t.c.t.n t.c.t.c,.bool t.c.l.s,.slice t.c.l.a t.c.l.n t.c.l.c,.int .u16 t.m.x,.int .u16 t.m.y,.int .u16 t.m.z,.int .u16 t.m.t]] w _;go_enter Tryz.func45,Tryz.ntmps45
 go_upto_region 1 with (fail)
 rw[show w.alloc (.cells #[.bool t.c.t.s,.slice t.c.t.a t.c.t.n t.c.t.c,.bool t.c.l.s,.slice t.c.l.a t.c.l.n t.c.l.c,.int .u16 t.m.x,.int .u16 t.m.y,.int .u16 t.m.z,.int .u16 t.m.t] 71)=V from HV.o.symm];have c0:=B3.o.ce 0;have c1:=B3.o.ce 1;have c2:=B3.o.ce 2;have c3:=B3.o.ce 3;go_wp2_with fail
 refine K.o.mono ?_;rintro e w1 ⟨⟨r,rfl⟩,h⟩;have H:=qh h;clear h c0 c1 c2 c3;go_wp2_with fail
 (try simp only[Exit.inBlock,Exit.then])
 refine bodyPost_end (results_none rfl _ _ _) rfl ?_;exact⟨⟨_,rfl⟩,H.o.1,HA.o.trans H.o.2⟩
theorem BkS.poly {w:World} {b base q:Nat} {L M:List HL} (h:BkS w b base q L M) (x:PV) (ts:List TV) (hr:RT w x.a ts) (hn:ts.length=x.n) (hfar:∀ p,x.a=some p->p.block<base) (hk:L.length+2*x.n<=29990) (hq:q+2*x.n<=59990) (hm:M.length<=30000) :
  Calls Tryz.prog 23 #[.pointer (some ⟨b,0,none⟩),x.v] w (Y0 b base (q+2*x.n+1) (L++Qm ts q) (M++[⟨x.a,x.n,x.c,q+2*x.n⟩]) w):=by
 obtain⟨xa,xn,xc⟩:=x;have HS:=qh h;have HR:=qh (show RT w xa ts from hr);have HN:=qh (show ts.length=xn from hn);have HF:=qh hfar;have HK:=qh (show L.length+2*xn<=29990 from hk);have HQ:=qh (show q+2*xn<=59990 from hq);have HM:=qh hm;clear h hr hn hfar hk hq hm;change Calls Tryz.prog 23 #[.pointer (some ⟨b,0,none⟩),.slice xa xn xc] w _;go_enter Tryz.func23,Tryz.ntmps23;go_wp2_with fail
 go_loopw [4] (fun i wr=>∃ j:Nat,j<=xn/\i=.int .i64 j/\BkS wr b base (q+2*j) (L++Qm (ts.take j) q) M/\Qw base w wr) (fun i _=>xn-(intOf i).toNat)
 case atStart=>exact⟨0,Nat.zero_le _,rfl,by simpa[Qm] using HS.o,Qw.refl _ _⟩
 case round =>
  obtain⟨j,hj,rfl,hs,hkb⟩:=hrel;have HJ:=qh hj;have HS:=qh hs;have KB:=qh hkb;clear hj hs hkb;by_cases hjn:j<xn
  ·have HJN:=qh hjn
   have hlt:(j:Int)<(xn:Int):=by omega
   obtain⟨t,ht⟩:∃ t,ts[j]?=some t:=⟨_,List.getElem?_eq_getElem (by rw[HN.o];exact hjn)⟩;obtain⟨pb,po,rfl,hre⟩:=HR.o.one (fun e=>by rw[e] at ht;simp at ht);have HT:=qh ht;have E1:=qh (RE.Q4 (hre j t ht) KB.o (HF.o _ rfl));have ek:IntKind.i64.wrap ((j:Int)+1)=(j:Int)+1:=IntWalk.i64_in _ (by have:=HJN.o;have:=HK.o;omega)
   have hll:(ts.take j).length=j:=by rw[List.length_take,HN.o];omega
   have HLL:=qh hll;have CT:=qh (show Calls Tryz.prog 45 #[.pointer (some ⟨b,0,none⟩),.agg #[.bool t.c.t.s,.slice t.c.t.a t.c.t.n t.c.t.c,.bool t.c.l.s,.slice t.c.l.a t.c.l.n t.c.l.c,.int .u16 t.m.x,.int .u16 t.m.y,.int .u16 t.m.z,.int .u16 t.m.t]] wr _ from HS.o.term (by rw[List.length_append,Zb,hll];have:=HJN.o;have:=HK.o;omega) (by have:=HJN.o;have:=HQ.o;omega) t);obtain⟨c0,c1,c2,c3,c4,c5,c6,c7⟩:=E1.o.eight;clear hjn ht hre hll;go_wp2_with fail
   with_reducible refine CT.o.mono ?_
   rintro e w1 ⟨⟨r,rfl⟩,hs,hk⟩
   have HS2:=qh (show BkS w1 b base (q+2*(j+1)) (L++Qm (ts.take (j+1)) q) M by
    rw[List.take_add_one,HT.o];show BkS w1 b base (q+2*(j+1)) (L++Qm (ts.take j++[t]) q) M;rw[Yv,HLL.o,<- List.append_assoc,<- List.append_assoc]
    exact hs)
   have KB:=qh (KB.o.trans hk);clear hs hk CT c0 c1 c2 c3 c4 c5 c6 c7;go_wp2_with fail
   go_roundw
   case rel=>exact⟨j+1,HJN.o,rfl,HS2.o,KB.o⟩
   case measure=>simp[intOf];have:=HJN.o;omega
  ·have hge:¬((j:Int)<(xn:Int)):=by omega
   obtain rfl:j=xn:=by have:=HJ.o;omega
   have HAL:=qh (show ts.take j=ts from List.take_of_length_le (by rw[HN.o];exact zj));have HS2:=qh (show BkS wr b base (q+2*j) (L++Qm ts q) M by rw[<- HAL.o];exact HS.o);have K:=qh (HS2.o.keepT HM.o (by have:=HQ.o;omega) xa j xc);clear hjn;go_wp2_with fail
   refine K.o.mono ?_;rintro e w1 ⟨⟨r,rfl⟩,h⟩;have H:=qh h;clear h;go_wp2_with fail
   (try simp only[Exit.inBlock,Exit.then])
   refine bodyPost_end (results_none rfl _ _ _) rfl ?_;exact⟨⟨_,rfl⟩,H.o.1,KB.o.trans H.o.2⟩
end Book
namespace Pol
open Go.RowKit Go.Sort Limb
def moF (m:Mo):Nat->Int:=fun i=>((m.at i:Nat):Int)
theorem ZA {m:Mo} (h:m.Small):Mono.Small (moF m):=fun i _=>⟨Int.natCast_nonneg _,by have:=Kl h i;unfold moF;omega⟩
def Uw (o:Int) (m:Mo):Int:=Mono.KO o (moF m)
theorem jb5 {a b:Int}:Mono.JB a b>0↔b<a:=by
 rcases Int.lt_trichotomy a b with h | h | h
 ·rw[Mono.JO h];omega
 ·rw[Mono.J4 h];omega
 ·rw[Mono.JR h];omega
def Zl (w:World) (b:Nat) (v0 v1 v2 v3:Value):World:=(((w.setCell ⟨b,0,none⟩ v0).setCell ⟨b,1,none⟩ v1).setCell ⟨b,2,none⟩ v2).setCell ⟨b,3,none⟩ v3
theorem JP {w:World} {b:Nat} {t:TypeId} {u0 u1 u2 u3:Value} (h:Bxs w b t [u0,u1,u2,u3]) (v0 v1 v2 v3:Value):Bxs (Zl w b v0 v1 v2 v3) b t [v0,v1,v2,v3]:=(((h.put 0 v0).put 1 v1).put 2 v2).put 3 v3
theorem Jp {w:World} {b g:Nat} {t:TypeId} {l:List Value} (h:Bxs w g t l) (hn:g≠b) (v0 v1 v2 v3:Value):Bxs (Zl w b v0 v1 v2 v3) g t l:=(((h.other (a:=⟨b,0,none⟩) hn v0).other (a:=⟨b,1,none⟩) hn v1).other (a:=⟨b,2,none⟩) hn v2).other (a:=⟨b,3,none⟩) hn v3
theorem ZQ {w:World} {lo b:Nat} {x:FV} {q:Rat} {t:TypeId} {u0 u1 u2 u3:Value} (h:DF w lo x q) (hb:Bxs w b t [u0,u1,u2,u3]) (ht:160≠t) (v0 v1 v2 v3:Value):DF (Zl w b v0 v1 v2 v3) lo x q :=
 (((h.Jr hb ht 0 v0).Jr (hb.put 0 v0) ht 1 v1).Jr ((hb.put 0 v0).put 1 v1) ht 2 v2).Jr (((hb.put 0 v0).put 1 v1).put 2 v2) ht 3 v3
theorem U5 {w:World} {b:Nat} {x:FV} {q:Rat} {t:TypeId} {u0 u1 u2 u3:Value} (h:KF w x q) (hb:Bxs w b t [u0,u1,u2,u3]) (n0:XG u0=true) (n1:XG u1=true) (n2:XG u2=true) (n3:XG u3=true) {v0 v1 v2 v3:Value} (m0:XG v0=true) (m1:XG v1=true) (m2:XG v2=true):KF (Zl w b v0 v1 v2 v3) x q :=
 (((h.Jr hb (by simp[n0,n1,n2,n3]) 0 v0).Jr (hb.put 0 v0) (by simp[m0,n1,n2,n3]) 1 v1).Jr ((hb.put 0 v0).put 1 v1) (by simp[m0,m1,n2,n3]) 2 v2).Jr (((hb.put 0 v0).put 1 v1).put 2 v2) (by simp[m0,m1,m2,n3]) 3 v3
theorem Jv {B:Nat} {u w:World} {b:Nat} (h:Below B u w) (hb:B<=b) (v0 v1 v2 v3:Value):Below B u (Zl w b v0 v1 v2 v3):=(((h.setCell hb v0).setCell hb v1).setCell hb v2).setCell hb v3
theorem and1_u16 (e:Nat) (h:e<=65535):bits BinOp.and IntKind.u16 (e:Int) 1=((e%2:Nat):Int):=by
 have h2:=bits_mask .u16 16 (by decide) wraps_u16 1 (by decide) (e:Int) (by omega) (by omega)
 have e1:((2:Int) ^ 1-1)=1:=by decide
 rw[e1] at h2;rw[h2];omega
theorem JZ {q:Rat} {k:Nat} (h:LQ q k):∀ m:Nat,LQ (q ^ m) (m*k+1)
 | 0=>by
  have h1:LQ ((1:Int):Rat) 1:=by constructor <;> decide +kernel
  rw[Rat.pow_zero,Nat.zero_mul,Nat.zero_add]
  exact h1
 | m+1=>by
  rw[Rat.pow_succ];exact((JZ h m).ls.mul h.ls).lq (by rw[Nat.add_mul];omega) (by rw[Nat.add_mul];omega)
theorem ZB (x:FV) (q:Rat) (n k:Nat) (w:World) (hx:KF w x q) (hq:LQ q k) (hn:n<=65535) (hk:n*k+1<=900000) :
  Calls Tryz.prog 125 #[x.v,.int .u16 (n:Int)] w (RF w (q ^ n)):=by
 obtain⟨V0,hV⟩:∃ V,V=(w.alloc (.cells #[.bool x.t.s,.slice x.t.a x.t.n x.t.c,.bool x.l.s,.slice x.l.a x.l.n x.l.c] 28)).alloc (.cells #[.bool false,.slice none 0 0,.bool false,.slice none 0 0] 28):=⟨_,rfl⟩
 have hbV:Below w.heap.size w V0:=by rw[hV];exact(zk.alloc zj _).alloc (by go_size) _
 have B2:=qh (show Bxs V0 w.heap.size 28 [.bool x.t.s,.slice x.t.a x.t.n x.t.c,.bool x.l.s,.slice x.l.a x.l.n x.l.c] by rw[hV];exact(Bxs.new w 28 [.bool x.t.s,.slice x.t.a x.t.n x.t.c,.bool x.l.s,.slice x.l.a x.l.n x.l.c]).alloc _)
 have B4:=qh (show Bxs V0 (w.heap.size+1) 28 [.bool false,.slice none 0 0,.bool false,.slice none 0 0] by
  have h:=Bxs.new (w.alloc (.cells #[.bool x.t.s,.slice x.t.a x.t.n x.t.c,.bool x.l.s,.slice x.l.a x.l.n x.l.c] 28)) 28 [.bool false,.slice none 0 0,.bool false,.slice none 0 0];rw[World.size_alloc] at h
  rw[hV];exact h)
 have OF:=qh (qof 1 V0 (by decide) (by decide));have NX:=qh hx;have HQ:=qh hq;have HN:=qh hn;have HK:=qh hk;have HL:=qh (show ∀ m,m<=n->LQ (q ^ m) 900000 from fun m hm=>(JZ hq m).up (by have:=Nat.mul_le_mul_right k hm;omega));have KG:=qh hbV;have HV:=qh hV;obtain⟨A2,hA2⟩:∃ A,A=w.heap.size:=⟨_,rfl⟩;obtain⟨A4,hA4⟩:∃ A,A=w.heap.size+1:=⟨_,rfl⟩;have HA2:=qh (show w.heap.size<=A2 by omega);have HA4:=qh (show w.heap.size<=A4 by omega);have HN24:=qh (show A2≠A4 by omega);rw[<- hA4] at B4;rw[<- hA2] at B2;have HE4:=qh hA4;have HE2:=qh hA2;change Calls Tryz.prog 125 #[.agg #[.bool x.t.s,.slice x.t.a x.t.n x.t.c,.bool x.l.s,.slice x.l.a x.l.n x.l.c],.int .u16 (n:Int)] w _;clear hV hbV hx hq hn hk hA4 hA2;go_enter Tryz.func125,Tryz.ntmps125
 go_upto_region 1 with (fail)
 rw[show(w.alloc (.cells #[.bool x.t.s,.slice x.t.a x.t.n x.t.c,.bool x.l.s,.slice x.l.a x.l.n x.l.c] 28)).alloc (.cells #[.bool false,.slice none 0 0,.bool false,.slice none 0 0] 28)=V0 from HV.o.symm,show w.heap.size+1=A4 from HE4.o.symm,show w.heap.size=A2 from HE2.o.symm];go_wp2_with fail
 with_reducible refine OF.o.mono ?_
 rintro e w1 ⟨y,rfl,hy,hb⟩;have HY0:=qh hy;have B2:=qh (B2.o.bl hb);have B4:=qh (B4.o.bl hb);have KG:=qk KG hb;have HSZ:=qh (show w.heap.size<=V0.heap.size by rw[HV.o];simp;omega);clear hy hb OF
 go_upto_region 2 with (fail)
 obtain⟨V,hV⟩:∃ V,V=w1.alloc (.cells #[.bool y.t.s,.slice y.t.a y.t.n y.t.c,.bool y.l.s,.slice y.l.a y.l.n y.l.c] 28):=⟨_,rfl⟩
 have hbV:Below w1.heap.size w1 V:=by rw[hV];exact zk.alloc zj _
 have B5:=qh (show Bxs V w1.heap.size 28 [.bool y.t.s,.slice y.t.a y.t.n y.t.c,.bool y.l.s,.slice y.l.a y.l.n y.l.c] by rw[hV];exact Bxs.new w1 28 [.bool y.t.s,.slice y.t.a y.t.n y.t.c,.bool y.l.s,.slice y.l.a y.l.n y.l.c]);obtain⟨A5,hA5⟩:∃ A,A=w1.heap.size:=⟨_,rfl⟩;have HN25:=qh (show A2≠A5 by have:=B2.o.lt;omega);have HN45:=qh (show A4≠A5 by have:=B4.o.lt;omega);have HA5:=qh (show w.heap.size<=A5 by have:=KG.o.size;omega);have B2:=qh (B2.o.bl hbV);have B4:=qh (B4.o.bl hbV);have KG:=qk KG hbV;have HY:=qh (show DF V w.heap.size y (q ^ 0) from by rw[Rat.pow_zero];exact(HY0.o.below hbV).mono HSZ.o);have NX:=qh (NX.o.below KG.o);rw[<- hV,<- hA5];rw[<- hA5] at B5;clear hV hbV hA5 HY0;go_loopw [1] (fun s wr=>∃ (j m e:Nat) (xa xr:FV),s=.int .u16 (e:Int)/\j+m*e=n/\(e=0\/m<=n)/\j<=n/\e<=n/\KF wr xa (q ^ m)/\DF wr w.heap.size xr (q ^ j)/\Bxs wr A2 28 [.bool xa.t.s,.slice xa.t.a xa.t.n xa.t.c,.bool xa.l.s,.slice xa.l.a xa.l.n xa.l.c]/\Bxs wr A5 28 [.bool xr.t.s,.slice xr.t.a xr.t.n xr.t.c,.bool xr.l.s,.slice xr.l.a xr.l.n xr.l.c]/\Bxs wr A4 28 [.bool false,.slice none 0 0,.bool false,.slice none 0 0]/\Below w.heap.size w wr) (fun s _=>(intOf s).toNat)
 case atStart =>
  refine⟨0,1,n,x,y,rfl,by omega,by omega,by omega,zj,?_,HY.o,B2.o,B5.o,B4.o,KG.o⟩;rw[Rat.pow_succ,Rat.pow_zero,Rat.one_mul];exact NX.o
 case round =>
  obtain⟨j,m,e,xa,xr,rfl,hje,hm0,hj,hen,ha,hr,hB2,hB5,hB4,hb0⟩:=hrel;have HJE:=qh hje;have HM0:=qh hm0;have HEN:=qh hen;have HJ:=qh hj;have NA:=qh ha;have NR:=qh hr;have B2:=qh hB2;have B5:=qh hB5;have B4:=qh hB4;have KG:=qh hb0;clear hje hm0 hen hj ha hr hB2 hB5 hB4 hb0;by_cases he0:0<e
  ·have h1:(0:Int)<(e:Int):=by omega
   have HM:=qh (show m<=n from HM0.o.elim (fun h=>absurd h (by omega)) id);have HE6:=qh (show e<=65535 from zm HEN.o HN.o);have eb:=and1_u16 e HE6.o;by_cases hodd:e%2=1
   ·have g0:((e:Int)%2==1)=true:=by simp;omega
    have HJM:=qh (show j+m<=n by have h:=HJE.o;have h2:=Nat.le_mul_of_pos_right m he0;omega);have MU:=qh (qmul NR.o.k.any (NR.o.k.len (HL.o _ HJ.o) zj) NA.o.any (NA.o.len (HL.o _ HM.o) zj));have c50:=B5.o.ce 0;have c51:=B5.o.ce 1;have c52:=B5.o.ce 2;have c53:=B5.o.ce 3;have c5f:=B5.o.fz;have c5l:=B5.o.lt;have c20:=B2.o.ce 0;have c21:=B2.o.ce 1;have c22:=B2.o.ce 2;have c23:=B2.o.ce 3;have c2f:=B2.o.fz;have c2l:=B2.o.lt;go_wp2_with fail
    with_reducible refine MU.o.mono ?_
    rintro _ w2 ⟨y2,rfl,hy,hb⟩;have B2:=qh (B2.o.bl hb);have B4:=qh (B4.o.bl hb);have B5:=qh (B5.o.bl hb);have NA:=qh (NA.o.below hb);have NR:=qh (show DF w2 w.heap.size y2 (q ^ (j+m)) from by rw[XB];exact hy.mono KG.o.size);have KG:=qk KG hb;clear hy hb MU;clear c50 c51 c52 c53 c5f c5l;clear c20 c21 c22 c23 c2f c2l;have c50:=B5.o.ce 0;have c51:=B5.o.ce 1;have c52:=B5.o.ce 2;have c53:=B5.o.ce 3;have c5f:=B5.o.fz;have c5l:=B5.o.lt
    go_upto_region 6 with (fail)
    clear c50 c51 c52 c53 c5f c5l;obtain⟨U,hU⟩:∃ U,U=Zl w2 A5 (.bool y2.t.s) (.slice y2.t.a y2.t.n y2.t.c) (.bool y2.l.s) (.slice y2.l.a y2.l.n y2.l.c):=⟨_,rfl⟩;have NR:=qh (show DF U w.heap.size y2 _ by rw[hU];exact ZQ NR.o B5.o (by decide) ..);have NA:=qh (show KF U xa _ by rw[hU];exact U5 NA.o B5.o rfl rfl rfl rfl rfl rfl rfl);have B2:=qh (show Bxs U A2 28 _ by rw[hU];exact Jp B2.o HN25.o ..);have B4:=qh (show Bxs U A4 28 _ by rw[hU];exact Jp B4.o HN45.o ..);have KG:=qh (show Below w.heap.size w U by rw[hU];exact Jv KG.o HA5.o ..);have B5:=qh (show Bxs U A5 28 [.bool y2.t.s,.slice y2.t.a y2.t.n y2.t.c,.bool y2.l.s,.slice y2.l.a y2.l.n y2.l.c] by rw[hU];exact JP B5.o ..);unfold Zl at hU;rw[<- hU];clear hU;by_cases he1:1<e
    ·have g3:(1:Int)<(e:Int):=by omega
     have HE1:=qh he1;have HM2:=qh (show m+m<=n by have h:=HJE.o;have h2:=Nat.mul_le_mul_left m (show 2<=e by omega);omega);have MV:=qh (qmul NA.o.any (NA.o.len (HL.o _ HM.o) zj) NA.o.any (NA.o.len (HL.o _ HM.o) zj));have c20:=B2.o.ce 0;have c21:=B2.o.ce 1;have c22:=B2.o.ce 2;have c23:=B2.o.ce 3;have c2f:=B2.o.fz;have c2l:=B2.o.lt;go_wp2_with fail
     with_reducible refine MV.o.mono ?_
     rintro _ w3 ⟨y3,rfl,hy,hb⟩;have B2:=qh (B2.o.bl hb);have B4:=qh (B4.o.bl hb);have B5:=qh (B5.o.bl hb);have NA:=qh (NA.o.below hb);have NR:=qh (NR.o.below hb);have NB:=qh (show KF w3 y3 (q ^ (m+m)) from by rw[XB];exact hy.k);have KG:=qk KG hb;clear hy hb MV;clear c20 c21 c22 c23 c2f c2l;have c20:=B2.o.ce 0;have c21:=B2.o.ce 1;have c22:=B2.o.ce 2;have c23:=B2.o.ce 3;have c2f:=B2.o.fz;have c2l:=B2.o.lt;go_wp2_with fail
     go_roundw
     case rel =>
      refine⟨j+m,m+m,e/2,y3,y2,?_,?_,Or.inr HM2.o,HJM.o,by have:=HEN.o;omega,U5 NB.o B2.o rfl rfl rfl rfl rfl rfl rfl,ZQ NR.o B2.o (by decide) ..,JP B2.o ..,Jp B5.o HN25.o.symm ..,Jp B4.o HN24.o.symm ..,Jv KG.o HA2.o ..⟩
      ·exact congrArg (Value.int .u16) (by omega)
      ·obtain⟨f,hf⟩:∃ f,f=e/2:=⟨_,rfl⟩
       have he:e=2*f+1:=by omega
       have h:=HJE.o;rw[he] at h;rw[<- hf,<- h];grind
     case measure=>simp[intOf];omega
    ·have g3:¬((1:Int)<(e:Int)):=by omega
     have HE1:=qh (show e=1 by omega);go_wp2_with fail
     go_roundw
     case rel =>
      refine⟨j+m,m,e/2,xa,y2,?_,?_,Or.inr HM.o,HJM.o,by have:=HEN.o;omega,NA.o,NR.o,B2.o,B5.o,B4.o,KG.o⟩
      ·exact congrArg (Value.int .u16) (by omega)
      ·have h:=HJE.o;rw[HE1.o] at h ⊢;omega
     case measure=>simp[intOf];omega
   ·have g0:((e:Int)%2==1)=false:=by simp;omega
    by_cases he1:1<e
    ·have g3:(1:Int)<(e:Int):=by omega
     have HE1:=qh he1;have HM2:=qh (show m+m<=n by have h:=HJE.o;have h2:=Nat.mul_le_mul_left m (show 2<=e by omega);omega);have MV:=qh (qmul NA.o.any (NA.o.len (HL.o _ HM.o) zj) NA.o.any (NA.o.len (HL.o _ HM.o) zj));have c20:=B2.o.ce 0;have c21:=B2.o.ce 1;have c22:=B2.o.ce 2;have c23:=B2.o.ce 3;have c2f:=B2.o.fz;have c2l:=B2.o.lt;go_wp2_with fail
     with_reducible refine MV.o.mono ?_
     rintro _ w3 ⟨y3,rfl,hy,hb⟩;have B2:=qh (B2.o.bl hb);have B4:=qh (B4.o.bl hb);have B5:=qh (B5.o.bl hb);have NA:=qh (NA.o.below hb);have NR:=qh (NR.o.below hb);have NB:=qh (show KF w3 y3 (q ^ (m+m)) from by rw[XB];exact hy.k);have KG:=qk KG hb;clear hy hb MV;clear c20 c21 c22 c23 c2f c2l;have c20:=B2.o.ce 0;have c21:=B2.o.ce 1;have c22:=B2.o.ce 2;have c23:=B2.o.ce 3;have c2f:=B2.o.fz;have c2l:=B2.o.lt;go_wp2_with fail
     go_roundw
     case rel =>
      refine⟨j,m+m,e/2,y3,xr,?_,?_,Or.inr HM2.o,HJ.o,by have:=HEN.o;omega,U5 NB.o B2.o rfl rfl rfl rfl rfl rfl rfl,ZQ NR.o B2.o (by decide) ..,JP B2.o ..,Jp B5.o HN25.o.symm ..,Jp B4.o HN24.o.symm ..,Jv KG.o HA2.o ..⟩
      ·exact congrArg (Value.int .u16) (by omega)
      ·obtain⟨f,hf⟩:∃ f,f=e/2:=⟨_,rfl⟩
       have he:e=2*f:=by omega
       have h:=HJE.o;rw[he] at h;rw[<- hf,<- h];grind
     case measure=>simp[intOf];omega
    ·have g3:¬((1:Int)<(e:Int)):=by omega
     have HE1:=qh (show e=1 by omega);go_wp2_with fail
     go_roundw
     case rel =>
      refine⟨j,m,e/2,xa,xr,?_,?_,Or.inr HM.o,HJ.o,by have:=HEN.o;omega,NA.o,NR.o,B2.o,B5.o,B4.o,KG.o⟩
      ·exact absurd HE1.o (by omega)
      ·exact absurd HE1.o (by omega)
     case measure=>simp[intOf];omega
  ·have h0:e=0:=by omega
   subst h0;have HJN:=qh (show j=n by have h:=HJE.o;omega);have HR:=qh (show DF (Zl wr A4 (.bool xr.t.s) (.slice xr.t.a xr.t.n xr.t.c) (.bool xr.l.s) (.slice xr.l.a xr.l.n xr.l.c)) w.heap.size xr (q ^ n) from by rw[<- HJN.o];exact ZQ NR.o B4.o (by decide) ..);have c50:=B5.o.ce 0;have c51:=B5.o.ce 1;have c52:=B5.o.ce 2;have c53:=B5.o.ce 3;have c5f:=B5.o.fz;have c5l:=B5.o.lt;have c40:=B4.o.ce 0;have c41:=B4.o.ce 1;have c42:=B4.o.ce 2;have c43:=B4.o.ce 3;have c4f:=B4.o.fz;have c4l:=B4.o.lt;go_wp2_with fail
   exact bodyPost_ret (Je rfl _ _ _ _ _ _ _ rfl (JP B4.o ..) Tryz.underlying28 rfl (by kernel_rfl)) rfl ⟨xr,rfl,HR.o,Jv KG.o HA4.o ..⟩
structure EF (w:World) (lo:Nat) (x:FV) (q:Rat):Prop where
 t:DN w lo x.t q.num
 l:DN w lo x.l (q.den:Int)
theorem EF.below {w w':World} {lo:Nat} {x:FV} {q:Rat} (h:EF w lo x q) (hb:Below w.heap.size w w'):EF w' lo x q:=⟨h.t.below hb,h.l.below hb⟩
theorem EF.mono {w:World} {lo lo':Nat} {x:FV} {q:Rat} (h:EF w lo x q) (hl:lo'<=lo):EF w lo' x q:=⟨h.t.mono hl,h.l.mono hl⟩
theorem EF.k {w:World} {lo:Nat} {x:FV} {q:Rat} (h:EF w lo x q):KF w x q:=⟨h.t.k,h.l.k⟩
theorem EF.kept {w w':World} {lo:Nat} {x:FV} {q:Rat} (h:EF w lo x q) (hk:∀ b,FV.blk x b->w'.heap[b]?=w.heap[b]?):EF w' lo x q:=⟨h.t.kept fun b hb=>hk b (Or.inl hb),h.l.kept fun b hb=>hk b (Or.inr hb)⟩
theorem EF.QY {w:World} {lo:Nat} {x:FV} {q:Rat} (h:EF w lo x q):∀ b,FV.blk x b->lo<=b/\b<w.heap.size:=fun b hb=>hb.elim (h.t.QY b) (h.l.QY b)
theorem EF.Jr {w:World} {lo:Nat} {x:FV} {q:Rat} (h:EF w lo x q) {g:Nat} {t:TypeId} {l:List Value} (hb:Bxs w g t l) (ht:160≠t) (i:Nat) (v:Value):EF (w.setCell ⟨g,i,none⟩ v) lo x q:=⟨h.t.Jr hb ht i v,h.l.Jr hb ht i v⟩
def RKV (w:World) (q:Rat) (e:Ending) (w':World):Prop:=∃ y:FV,e=.returned y.v/\EF w' w.heap.size y q/\Below w.heap.size w w'
theorem Kk.rkv {w w':World} {q:Rat} {e:Ending} (h:Kk w q.num (q.den:Int) e w'):RKV w q e w':=by
 obtain⟨a1,c1,a2,c2,rfl,o1,o2,hb⟩:=h;exact⟨⟨⟨_,a1,_,c1⟩,⟨_,a2,_,c2⟩⟩,rfl,⟨⟨rfl,rfl,o1⟩,⟨rfl,rfl,o2⟩⟩,hb⟩
theorem raddV {w:World} {x y:FV} {p q:Rat} (h1:AF w x p) (b1:LF x 900000) (h2:AF w y q) (b2:LF y 900000):Calls Tryz.prog 130 #[x.v,y.v] w (RKV w (p+q)):=by
 obtain⟨o1,o2,r1,r2,e1⟩:=h1.ex;obtain⟨o3,o4,r3,r4,e2⟩:=h2.ex
 exact(jfy x.t.s x.t.a x.t.n x.t.c o1 x.l.s x.l.a x.l.n x.l.c o2 y.t.s y.t.a y.t.n y.t.c o3 y.l.s y.l.a y.l.n y.l.c o4 w p q e1.symm e2.symm r1 (by omega) h1.l1 r2 (by omega) h1.l2 r3 (by omega) h2.l1 r4 (by omega) h2.l2).mono fun _ _ h=>Kk.rkv h
theorem jai {w:World} {x y:FV} {p q:Rat} (h1:AF w x p) (b1:LF x 900000) (h2:AF w y q) (b2:LF y 900000):Calls Tryz.prog 81 #[x.v,y.v] w (RKV w (p*q)):=by
 obtain⟨o1,o2,r1,r2,e1⟩:=h1.ex;obtain⟨o3,o4,r3,r4,e2⟩:=h2.ex
 exact(jfz x.t.s x.t.a x.t.n x.t.c o1 x.l.s x.l.a x.l.n x.l.c o2 y.t.s y.t.a y.t.n y.t.c o3 y.l.s y.l.a y.l.n y.l.c o4 w p q e1.symm e2.symm r1 (by omega) h1.l1 r2 (by omega) h1.l2 r3 (by omega) h2.l1 r4 (by omega) h2.l2).mono fun _ _ h=>Kk.rkv h
theorem jaj {w:World} {x:FV} {p:Rat} (h1:AF w x p) (b1:LF x 900000):Calls Tryz.prog 77 #[x.v] w fun e w'=>e=.returned (.int .i64 (JB p.num 0))/\Below w.heap.size w w':=by
 obtain⟨o1,o2,r1,r2,e1⟩:=h1.ex;exact jc8 x.t.s x.t.a x.t.n x.t.c o1 x.l.s x.l.a x.l.n x.l.c o2 w p e1.symm r1 (by omega) h1.l1 r2 (by omega) h1.l2
theorem rofV (n:Int) (w:World) (h1:-9223372036854775808<=n) (h2:n<=9223372036854775807):Calls Tryz.prog 76 #[.int .i64 n] w (RKV w (n:Rat)) :=
 (jbx n w h1 h2).mono fun _ _ h=>Kk.rkv (q:=(n:Rat)) (by rw[Rat.num_intCast,Rat.den_intCast];exact h)
open Classical in
theorem Xp {w:World} {x:FV} {p:Rat} (h1:KF w x p) (b1:LF x 900000):Calls Tryz.prog 128 #[x.v] w fun e w'=>e=.returned (.bool true)/\Below w.heap.size w w':=by
 have h:=XA x.t.s x.t.a x.t.n x.t.c _ x.l.s x.l.a x.l.n x.l.c _ w h1.t.rd (by omega) h1.t.le h1.l.rd (by omega) h1.l.le;rw[decide_eq_true (by rw[h1.t.s,h1.t.n,h1.l.s,h1.l.n];exact Ya p)] at h;exact h
open Classical in
theorem jb6 {w:World} {x:FV} (h1:BF w x) (b1:LF x 900000):Calls Tryz.prog 128 #[x.v] w fun e w'=>e=.returned (.bool false)/\Below w.heap.size w w':=by
 obtain⟨o1,o2,r1,r2,hk⟩:=h1.ex;have h:=XA x.t.s x.t.a x.t.n x.t.c o1 x.l.s x.l.a x.l.n x.l.c o2 w r1 (by omega) h1.l1 r2 (by omega) h1.l2;rw[zo hk] at h;exact h
theorem rcmpV (o:Int) (a b:Mo) (w:World) (ha:a.Small) (hb:b.Small):Calls Tryz.prog 151 #[.int .u8 o,Mo.v a,Mo.v b] w fun e w'=>e=.returned (.int .i64 (Mono.JB (Uw o a) (Uw o b)))/\Below w.heap.size w w':=by
 have h:=Mono.rcmp_any o (moF a) (moF b) w (ZA ha) (ZA hb);rw[Mono.cmp_key (o:=o) (ZA ha) (ZA hb)] at h;exact h
theorem jeu {a b:Mo} (ha:a.Small) (hb:b.Small):a.lt b↔Uw 0 a<Uw 0 b:=by
 have hk:∀ m:Mo,Uw 0 m=(m.x:Int)*281474976710656+(m.y:Int)*4294967296+(m.z:Int)*65536+(m.t:Int):=fun m=>by
  unfold Uw Mono.KO;rw[if_neg (by decide),if_neg (by decide)];rfl
 obtain⟨a1,a2,a3,a4⟩:=ha;obtain⟨b1,b2,b3,b4⟩:=hb;rw[hk,hk];unfold Mo.lt;omega
theorem at1_k (x:FV) (q:Rat) (w:World) (h:KF w x q) (hq:LQ q 900000):Calls Tryz.prog 123 #[x.v] w fun e w'=>e=.returned (.bool false)/\Below w.heap.size w w':=by
 obtain⟨V,hV⟩:∃ V,V=w.alloc (.cells #[.bool x.t.s,.slice x.t.a x.t.n x.t.c,.bool x.l.s,.slice x.l.a x.l.n x.l.c] 28):=⟨_,rfl⟩
 have hbV:Below w.heap.size w V:=by rw[hV];exact zk.alloc zj _
 have B1:=qh (show Bxs V w.heap.size 28 [.bool x.t.s,.slice x.t.a x.t.n x.t.c,.bool x.l.s,.slice x.l.a x.l.n x.l.c] by rw[hV];exact Bxs.new w 28 [.bool x.t.s,.slice x.t.a x.t.n x.t.c,.bool x.l.s,.slice x.l.a x.l.n x.l.c]);have KG:=qh hbV;have HV:=qh hV;have CK:=qh (YD (h.below hbV) (h.len hq zj));clear hV hbV h hq;change Calls Tryz.prog 123 #[.agg #[.bool x.t.s,.slice x.t.a x.t.n x.t.c,.bool x.l.s,.slice x.l.a x.l.n x.l.c]] w _;go_enter Tryz.func123,Tryz.ntmps123
 go_upto_region 1 with (fail)
 rw[show w.alloc (.cells #[.bool x.t.s,.slice x.t.a x.t.n x.t.c,.bool x.l.s,.slice x.l.a x.l.n x.l.c] 28)=V from HV.o.symm];have c0:=B1.o.ce 0;have c1:=B1.o.ce 1;have c2:=B1.o.ce 2;have c3:=B1.o.ce 3;go_wp2_with fail
 with_reducible refine CK.o.mono ?_
 rintro e w1 ⟨rfl,hb⟩;have KG:=qk KG hb;clear hb CK c0 c1 c2 c3;go_wp2_with fail
 go_ret;exact⟨rfl,KG.o⟩
structure K4 (w:World) (x0 x1 x2 x3:FV) (l:Nat->Rat):Prop where
 k0:KF w x0 (l 0)
 k1:KF w x1 (l 1)
 k2:KF w x2 (l 2)
 k3:KF w x3 (l 3)
theorem K4.below {w w':World} {x0 x1 x2 x3:FV} {l:Nat->Rat} (h:K4 w x0 x1 x2 x3 l) (hb:Below w.heap.size w w'):K4 w' x0 x1 x2 x3 l:=⟨h.k0.below hb,h.k1.below hb,h.k2.below hb,h.k3.below hb⟩
theorem idx_k (b:Nat) (x0 x1 x2 x3:FV) (l:Nat->Rat) (w:World) (hb:Bxs w b 58 [.bool x0.t.s,.slice x0.t.a x0.t.n x0.t.c,.bool x0.l.s,.slice x0.l.a x0.l.n x0.l.c,.bool x1.t.s,.slice x1.t.a x1.t.n x1.t.c,.bool x1.l.s,.slice x1.l.a x1.l.n x1.l.c,.bool x2.t.s,.slice x2.t.a x2.t.n x2.t.c,.bool x2.l.s,.slice x2.l.a x2.l.n x2.l.c,.bool x3.t.s,.slice x3.t.a x3.t.n x3.t.c,.bool x3.l.s,.slice x3.l.a x3.l.n x3.l.c]) (h:K4 w x0 x1 x2 x3 l) (hq:∀ i,LQ (l i) 900000) :
  Calls Tryz.prog 203 #[.slice (some ⟨b,0,none⟩) 4 4,.func (.func 123) #[] #[]] w fun e w'=>e=.returned (.int .i64 (-1))/\Below w.heap.size w w':=by
 have BB:=qh hb;have HH:=qh h;have HQ:=qh hq
 have hcf:∀ (args:Array Value) (w:World),(callFunc 123 args).run Tryz.prog w=.ok (.enter 123 args) w:=fun _ _=>by kernel_rfl
 clear hb h hq;go_enter Tryz.func203,Tryz.ntmps203;go_wp2_with fail
 go_loopw [8] (fun i wr=>∃ j:Nat,j<=4/\i=.int .i64 j/\Below w.heap.size w wr) (fun i _=>4-(intOf i).toNat)
 case atStart=>exact⟨0,Nat.zero_le _,rfl,zk⟩
 case round =>
  obtain⟨j,hj,rfl,hb0⟩:=hrel;have KG:=qh hb0;have B1:=qh (BB.o.bl hb0);have H4:=qh (HH.o.below hb0);clear hb0;by_cases hjn:j<4
  ·have hl5:j=0\/j=1\/j=2\/j=3:=by omega
   clear hj hjn;have c0:=B1.o.ce 0;have c1:=B1.o.ce 1;have c2:=B1.o.ce 2;have c3:=B1.o.ce 3;have c4:=B1.o.ce 4;have c5:=B1.o.ce 5;have c6:=B1.o.ce 6;have c7:=B1.o.ce 7;have c8:=B1.o.ce 8;have c9:=B1.o.ce 9;have c10:=B1.o.ce 10;have c11:=B1.o.ce 11;have c12:=B1.o.ce 12;have c13:=B1.o.ce 13;have c14:=B1.o.ce 14;have c15:=B1.o.ce 15
   rcases hl5 with rfl | rfl | rfl | rfl
   ·have AK:=qh (at1_k x0 (l 0) wr H4.o.k0 (HQ.o 0));go_wp2_with fail
    with_reducible refine AK.o.mono ?_
    rintro e w1 ⟨rfl,hb⟩;have KG:=qk KG hb;clear hb AK c0 c1 c2 c3 c4 c5 c6 c7 c8 c9 c10 c11 c12 c13 c14 c15;go_wp2_with fail
    go_roundw
    case rel=>exact⟨1,by omega,rfl,KG.o⟩
    case measure=>simp[intOf]
   ·have AK:=qh (at1_k x1 (l 1) wr H4.o.k1 (HQ.o 1));go_wp2_with fail
    with_reducible refine AK.o.mono ?_
    rintro e w1 ⟨rfl,hb⟩;have KG:=qk KG hb;clear hb AK c0 c1 c2 c3 c4 c5 c6 c7 c8 c9 c10 c11 c12 c13 c14 c15;go_wp2_with fail
    go_roundw
    case rel=>exact⟨2,by omega,rfl,KG.o⟩
    case measure=>simp[intOf]
   ·have AK:=qh (at1_k x2 (l 2) wr H4.o.k2 (HQ.o 2));go_wp2_with fail
    with_reducible refine AK.o.mono ?_
    rintro e w1 ⟨rfl,hb⟩;have KG:=qk KG hb;clear hb AK c0 c1 c2 c3 c4 c5 c6 c7 c8 c9 c10 c11 c12 c13 c14 c15;go_wp2_with fail
    go_roundw
    case rel=>exact⟨3,by omega,rfl,KG.o⟩
    case measure=>simp[intOf]
   ·have AK:=qh (at1_k x3 (l 3) wr H4.o.k3 (HQ.o 3));go_wp2_with fail
    with_reducible refine AK.o.mono ?_
    rintro e w1 ⟨rfl,hb⟩;have KG:=qk KG hb;clear hb AK c0 c1 c2 c3 c4 c5 c6 c7 c8 c9 c10 c11 c12 c13 c14 c15;go_wp2_with fail
    go_roundw
    case rel=>exact⟨4,by omega,rfl,KG.o⟩
    case measure=>simp[intOf]
  ·obtain rfl:j=4:=by omega
   clear hj hjn;go_wp2_with fail
   go_ret;exact⟨rfl,KG.o⟩
theorem con_k (b:Nat) (x0 x1 x2 x3:FV) (l:Nat->Rat) (w:World) (hb:Bxs w b 58 [.bool x0.t.s,.slice x0.t.a x0.t.n x0.t.c,.bool x0.l.s,.slice x0.l.a x0.l.n x0.l.c,.bool x1.t.s,.slice x1.t.a x1.t.n x1.t.c,.bool x1.l.s,.slice x1.l.a x1.l.n x1.l.c,.bool x2.t.s,.slice x2.t.a x2.t.n x2.t.c,.bool x2.l.s,.slice x2.l.a x2.l.n x2.l.c,.bool x3.t.s,.slice x3.t.a x3.t.n x3.t.c,.bool x3.l.s,.slice x3.l.a x3.l.n x3.l.c]) (h:K4 w x0 x1 x2 x3 l) (hq:∀ i,LQ (l i) 900000) :
  Calls Tryz.prog 122 #[.slice (some ⟨b,0,none⟩) 4 4,.func (.func 123) #[] #[]] w fun e w'=>e=.returned (.bool false)/\Below w.heap.size w w':=by
 have IK:=qh (idx_k b x0 x1 x2 x3 l w hb h hq);clear hb h hq;go_enter Tryz.func122,Tryz.ntmps122;go_wp2_with fail
 with_reducible refine IK.o.mono ?_
 rintro e w1 ⟨rfl,hb⟩;have KG:=qh hb;clear hb IK;go_wp2_with fail
 go_ret;exact⟨rfl,KG.o⟩
end Pol
end Go.Proofs.YtgkkbkoiaccmfaaGreatDoor
