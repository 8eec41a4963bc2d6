/-
  The walks of what polys.At asks of a place.
-/
import Derived.Test.YthacfgmdihcffaaGreatDoorPzRN
import Derived.SizedLaws
import Derived.Lib.EndianBits
set_option linter.unusedSimpArgs false
set_option linter.unusedVariables false
set_option maxHeartbeats 16000000
set_option maxRecDepth 100000
namespace Go.Proofs.YthacfgmdihcffaaGreatDoor
namespace Pol
open Go.RowKit Go.Sort Limb
def IR (w:World) (e:Ending) (w':World):Prop:=∃ z:Int,e=.returned (.int .i64 z)/\Below w.heap.size w w'
theorem IR.is {w w':World} (z:Int) (h:Below w.heap.size w w'):IR w (.returned (.int .i64 z)) w':=⟨z,rfl,h⟩
def BR (w:World) (Φ:Prop) (e:Ending) (w':World):Prop:=∃ b:Bool,e=.returned (.bool b)/\(b=false->Φ)/\Below w.heap.size w w'
theorem BR.yes {w w':World} {Φ:Prop} (h:Below w.heap.size w w'):BR w Φ (.returned (.bool true)) w':=⟨true,rfl,nofun,h⟩
theorem BR.no {w w':World} {Φ:Prop} (h:Below w.heap.size w w') (hp:Φ):BR w Φ (.returned (.bool false)) w':=⟨false,rfl,fun _=>hp,h⟩
theorem limbs_size (a:Option Addr) (n c:Nat) (w:World):Calls Tryz.prog 233 #[.slice a n c] w fun e w'=>IR w e w':=by
 go_enter Tryz.func233,Tryz.ntmps233;go_wp2_with fail
 go_ret;exact IR.is _ zk
theorem num_size (s:Bool) (a:Option Addr) (n c:Nat) (w:World):Calls Tryz.prog 196 #[.agg #[.bool s,.slice a n c]] w fun e w'=>IR w e w':=by
 obtain⟨V,hV⟩:∃ V,V=w.alloc (.cells #[.bool s,.slice a n c] 30):=⟨_,rfl⟩
 have hbV:Below w.heap.size w V:=by rw[hV];exact zk.alloc zj _
 have B1:=qh (show Bxs V w.heap.size 30 [.bool s,.slice a n c] by rw[hV];exact Bxs.new w 30 [.bool s,.slice a n c]);have KG:=qh hbV;have HV:=qh hV;clear hV hbV;go_enter Tryz.func196,Tryz.ntmps196
 go_upto_region 1 with (fail)
 rw[show w.alloc (.cells #[.bool s,.slice a n c] 30)=V from HV.o.symm];have c0:=B1.o.ce 0;have c1:=B1.o.ce 1;go_wp2_with fail
 with_reducible refine(limbs_size _ _ _ _).mono ?_
 rintro e w1 ⟨zw1,rfl,hb⟩;have KG:=qk KG hb;have B1:=qh (B1.o.bl hb);clear hb c0 c1;go_wp2_with fail
 go_ret;exact IR.is _ KG.o
theorem frac_size (x:FV) (w:World):Calls Tryz.prog 158 #[x.v] w fun e w'=>IR w e w':=by
 obtain⟨V,hV⟩:∃ V,V=w.alloc (.cells #[.bool x.t.s,.slice x.t.a x.t.n x.t.c,.bool x.l.s,.slice x.l.a x.l.n x.l.c] 32):=⟨_,rfl⟩
 have hbV:Below w.heap.size w V:=by rw[hV];exact zk.alloc zj _
 have B1:=qh (show Bxs V w.heap.size 32 [.bool x.t.s,.slice x.t.a x.t.n x.t.c,.bool x.l.s,.slice x.l.a x.l.n x.l.c] by rw[hV];exact Bxs.new w 32 [.bool x.t.s,.slice x.t.a x.t.n x.t.c,.bool x.l.s,.slice x.l.a x.l.n x.l.c]);have KG:=qh hbV;have HV:=qh hV;clear hV hbV;change Calls Tryz.prog 158 #[.agg #[.bool x.t.s,.slice x.t.a x.t.n x.t.c,.bool x.l.s,.slice x.l.a x.l.n x.l.c]] w _;go_enter Tryz.func158,Tryz.ntmps158
 go_upto_region 1 with (fail)
 rw[show w.alloc (.cells #[.bool x.t.s,.slice x.t.a x.t.n x.t.c,.bool x.l.s,.slice x.l.a x.l.n x.l.c] 32)=V from HV.o.symm];have c0:=B1.o.ce 0;have c1:=B1.o.ce 1;have c2:=B1.o.ce 2;have c3:=B1.o.ce 3;go_wp2_with fail
 with_reducible refine(num_size _ _ _ _ _).mono ?_
 rintro e w1 ⟨zw1,rfl,hb⟩;have KG:=qk KG hb;have B1:=qh (B1.o.bl hb);clear hb c0 c1 c2 c3;by_cases h:wrap64 (1+zw1)<=1048576
 ·have c0:=B1.o.ce 0;have c1:=B1.o.ce 1;have c2:=B1.o.ce 2;have c3:=B1.o.ce 3;go_wp2_with fail
  with_reducible refine(num_size _ _ _ _ _).mono ?_
  rintro e w2 ⟨z2,rfl,hb⟩;have KG:=qk KG hb;clear hb c0 c1 c2 c3;go_wp2_with fail
  go_ret;exact IR.is _ KG.o
 ·have h2:1048576<wrap64 (1+zw1):=by omega
  go_wp2_with fail
  go_ret;exact IR.is _ KG.o
theorem term_size (t:TV) (w:World):Calls Tryz.prog 98 #[TV.v t] w fun e w'=>IR w e w':=by
 obtain⟨V,hV⟩:∃ V,V=w.alloc (.cells #[.bool t.c.t.s,.slice t.c.t.a t.c.t.n t.c.t.c,.bool t.c.l.s,.slice t.c.l.a t.c.l.n t.c.l.c,.int .u16 t.m.x,.int .u16 t.m.y,.int .u16 t.m.z,.int .u16 t.m.t] 37):=⟨_,rfl⟩
 have hbV:Below w.heap.size w V:=by rw[hV];exact zk.alloc zj _
 have B1:=qh (show Bxs V w.heap.size 37 [.bool t.c.t.s,.slice t.c.t.a t.c.t.n t.c.t.c,.bool t.c.l.s,.slice t.c.l.a t.c.l.n t.c.l.c,.int .u16 t.m.x,.int .u16 t.m.y,.int .u16 t.m.z,.int .u16 t.m.t] by rw[hV];exact Bxs.new w 37 [.bool t.c.t.s,.slice t.c.t.a t.c.t.n t.c.t.c,.bool t.c.l.s,.slice t.c.l.a t.c.l.n t.c.l.c,.int .u16 t.m.x,.int .u16 t.m.y,.int .u16 t.m.z,.int .u16 t.m.t]);have KG:=qh hbV;have HV:=qh hV;clear hV hbV;change Calls Tryz.prog 98 #[.agg #[.bool t.c.t.s,.slice t.c.t.a t.c.t.n t.c.t.c,.bool t.c.l.s,.slice t.c.l.a t.c.l.n t.c.l.c,.int .u16 t.m.x,.int .u16 t.m.y,.int .u16 t.m.z,.int .u16 t.m.t]] w _;go_enter Tryz.func98,Tryz.ntmps98
 go_upto_region 1 with (fail)
 rw[show w.alloc (.cells #[.bool t.c.t.s,.slice t.c.t.a t.c.t.n t.c.t.c,.bool t.c.l.s,.slice t.c.l.a t.c.l.n t.c.l.c,.int .u16 t.m.x,.int .u16 t.m.y,.int .u16 t.m.z,.int .u16 t.m.t] 37)=V from HV.o.symm];have c0:=B1.o.ce 0;have c1:=B1.o.ce 1;have c2:=B1.o.ce 2;have c3:=B1.o.ce 3;have c4:=B1.o.ce 4;have c5:=B1.o.ce 5;have c6:=B1.o.ce 6;have c7:=B1.o.ce 7;go_wp2_with fail
 with_reducible refine(frac_size t.c _).mono ?_
 rintro e w1 ⟨zw1,rfl,hb⟩;have KG:=qk KG hb;have B1:=qh (B1.o.bl hb);clear hb c0 c1 c2 c3 c4 c5 c6 c7;go_wp2_with fail
 go_ret;exact IR.is _ KG.o
theorem poly_size (x:PV) (ts:List TV) (w:World) (hr:RT w x.a ts) (hl:ts.length=x.n) (hn:x.n<=1000000000):Calls Tryz.prog 28 #[x.v] w fun e w'=>IR w e w':=by
 obtain⟨xa,xn,xc⟩:=x;have HR:=qh hr;have HL:=qh (show ts.length=xn from hl);have HN:=qh (show xn<=1000000000 from hn);change Calls Tryz.prog 28 #[.slice xa xn xc] w _;clear hr hl hn;go_enter Tryz.func28,Tryz.ntmps28;go_wp2_with fail
 go_loopw [3,4] (fun s i wr=>∃ (j:Nat) (z:Int),j<=xn/\i=.int .i64 j/\s=.int .i64 z/\Below w.heap.size w wr) (fun _ i _=>xn-(intOf i).toNat)
 case atStart =>
  exact⟨0,_,Nat.zero_le _,rfl,rfl,zk⟩
 case round =>
  obtain⟨j,z,hj,rfl,rfl,hb0⟩:=hrel;have HJ:=qh hj;have KG:=qh hb0;clear hj hb0;by_cases hjn:j<xn
  ·by_cases hz:z<=1048576
   ·have HJN:=qh hjn
    have hjl:j<ts.length:=by rw[HL.o];exact hjn
    obtain⟨pb,po,rfl,hc⟩:=(HR.o.below KG.o).one (fun h=>by rw[h] at hjl;simp at hjl);obtain⟨t,he⟩:∃ t,ts[j]?=some t:=⟨_,List.getElem?_eq_getElem hjl⟩;obtain⟨c0,c1,c2,c3,c4,c5,c6,c7⟩:=(hc j t he).eight;have ek:IntKind.i64.wrap ((j:Int)+1)=(j:Int)+1:=IntWalk.i64_in _ (by have:=HJN.o;have:=HN.o;omega);clear hc he hjl;go_wp2_with fail
    with_reducible refine(term_size t _).mono ?_
    rintro e w1 ⟨z1,rfl,hb⟩;have KG:=qk KG hb;clear hb c0 c1 c2 c3 c4 c5 c6 c7;go_wp2_with fail
    go_roundw
    case rel =>
     exact⟨j+1,_,by have:=HJN.o;omega,rfl,rfl,KG.o⟩
    case measure=>simp[intOf];have:=HJN.o;omega
   ·have hz2:1048576<z:=by omega
    go_wp2_with fail
    go_ret;exact IR.is _ KG.o
  ·have hge:¬((j:Int)<(xn:Int)):=by omega
   clear hjn;go_wp2_with fail
   go_ret;exact IR.is _ KG.o
def NotGreat (m:Nat) (ts:List TV):Prop:=ts.length<=m/\∀ t∈ts,t.c.t.n<=4/\t.c.l.n<=1
def NoneGreat (m:Nat) (Xs:List (PV × List TV)):Prop:=∀ e∈Xs,NotGreat m e.2
theorem pgreat_any (g m k:Nat) (Xs:List (PV × List TV)) (w:World) (hk:Xs.length=k) (hc:∀ i e,Xs[i]?=some e->w.cell? ⟨g,i,none⟩=some e.1.v) (hr:∀ e∈Xs,RT w e.1.a e.2/\e.2.length=e.1.n)
  (hn:Xs.length<=1000) (hm:m<=1000) :
  Calls Tryz.prog 5 #[.int .i64 m,.slice (some ⟨g,0,none⟩) k k] w (BR w (NoneGreat m Xs)):=by
 have HK:=qh hk;have HC:=qh hc;have HR:=qh hr;have HN:=qh hn;have HM:=qh hm;clear hk hc hr hn hm;go_enter Tryz.func5,Tryz.ntmps5;go_wp2_with fail
 go_loopw [5] (fun i wr=>∃ j:Nat,j<=k/\i=.int .i64 j/\(∀ i e,Xs[i]?=some e->i<j->NotGreat m e.2)/\Below w.heap.size w wr) (fun i _=>k-(intOf i).toNat)
 case atStart =>
  exact⟨0,Nat.zero_le _,rfl,fun i e _ h=>absurd h (Nat.not_lt_zero _),zk⟩
 case round =>
  obtain⟨j,hj,rfl,hg,hb0⟩:=hrel;have HJ:=qh hj;have HG:=qh hg;have KG:=qh hb0;clear hj hg hb0;by_cases hjn:j<k
  ·have HJN:=qh hjn;obtain⟨⟨⟨xa,xn,xc⟩,ts⟩,he⟩:∃ e,Xs[j]?=some e:=⟨_,List.getElem?_eq_getElem (by rw[HK.o];exact hjn)⟩;have HE:=qh he;have CG:=qh (show ∀ w2,Below w.heap.size w w2->w2.cell? ⟨g,j,none⟩=some (.slice xa xn xc) from fun (w2:World) (h:Below w.heap.size w w2)=>(h.cell (p:=⟨g,j,none⟩) (block_lt_of_cell (HC.o j _ he))).trans (HC.o j _ he));have c0:=CG.o _ KG.o;obtain⟨r1,r2⟩:=HR.o _ (List.mem_of_getElem? he);have RX:=qh r1;have LX:=qh (show ts.length=xn from r2);have ek:IntKind.i64.wrap ((j:Int)+1)=(j:Int)+1:=IntWalk.i64_in _ (by have:=HJN.o;have:=HK.o;have:=HN.o;omega);have em:IntKind.i64.wrap (40*(m:Int))=40*(m:Int):=IntWalk.i64_in _ (by have:=HM.o;omega);clear he r1 r2;by_cases hxm:xn<=m
   ·have HXM:=qh hxm;have NX:=qh (show xn<=1000000000 by have:=HM.o;omega)
    have h1:¬((xn:Int)>(m:Int)):=by omega
    have h2:¬((m:Int)<(xn:Int)):=by omega
    have PS:=qh (poly_size ⟨xa,xn,xc⟩ ts wr (RX.o.below KG.o) LX.o NX.o);clear hxm;go_wp2_with fail
    with_reducible refine PS.o.mono ?_
    rintro e w1 ⟨z,rfl,hb⟩;have KG:=qk KG hb;clear hb PS c0;by_cases hz:z>40*(m:Int)
    ·have hz2:40*(m:Int)<z:=hz;go_wp2_with fail
     go_ret;exact BR.yes KG.o
    ·have hz2:¬(40*(m:Int)<z):=hz;go_wp2_with fail
     go_loopw [6] (fun i wr=>∃ l:Nat,l<=xn/\i=.int .i64 l/\(∀ i t,ts[i]?=some t->i<l->t.c.t.n<=4/\t.c.l.n<=1)/\Below w.heap.size w wr) (fun i _=>xn-(intOf i).toNat)
     case atStart =>
      exact⟨0,Nat.zero_le _,rfl,fun i e _ h=>absurd h (Nat.not_lt_zero _),KG.o⟩
     case round =>
      obtain⟨l,hl,rfl,hg2,hb0⟩:=hrel;have HL:=qh hl;have HG2:=qh hg2;have KG:=qh hb0;clear hl hg2 hb0;have c0:=CG.o _ KG.o;by_cases hln:l<xn
      ·have HLN:=qh hln
       have hll:l<ts.length:=by rw[LX.o];exact hln
       obtain⟨pb,po,rfl,hc⟩:=(RX.o.below KG.o).one (fun h=>by rw[h] at hll;simp at hll);obtain⟨t,ht⟩:∃ t,ts[l]?=some t:=⟨_,List.getElem?_eq_getElem hll⟩;obtain⟨d0,d1,d2,d3,d4,d5,d6,d7⟩:=(hc l t ht).eight;have HT:=qh ht;have el:IntKind.i64.wrap ((l:Int)+1)=(l:Int)+1:=IntWalk.i64_in _ (by have:=HLN.o;have:=NX.o;omega);clear hc ht hll;by_cases h4:t.c.t.n<=4
       ·have g1:¬((t.c.t.n:Int)>4):=by omega
        have g2:¬((4:Int)<(t.c.t.n:Int)):=by omega
        by_cases h5:t.c.l.n<=1
        ·have g3:¬((t.c.l.n:Int)>1):=by omega
         have g4:¬((1:Int)<(t.c.l.n:Int)):=by omega
         have H45:=qh (show t.c.t.n<=4/\t.c.l.n<=1 from⟨h4,h5⟩);clear h4 h5;go_wp2_with fail
         go_roundw
         case rel =>
          refine⟨l+1,by have:=HLN.o;omega,rfl,fun i t' h1 h2=>?_,KG.o⟩;by_cases h3:i<l
          ·exact HG2.o i t' h1 h3
          ·obtain rfl:i=l:=by omega
           rw[HT.o] at h1;obtain rfl:=Option.some.inj h1;exact H45.o
         case measure=>simp[intOf];have:=HLN.o;omega
        ·have g3:(t.c.l.n:Int)>1:=by omega
         have g4:(1:Int)<(t.c.l.n:Int):=by omega
         clear h4 h5;go_wp2_with fail
         go_ret;exact BR.yes KG.o
       ·have g1:(t.c.t.n:Int)>4:=by omega
        have g2:(4:Int)<(t.c.t.n:Int):=by omega
        clear h4;go_wp2_with fail
        go_ret;exact BR.yes KG.o
      ·have hge:¬((l:Int)<(xn:Int)):=by omega
       have HLE:=qh (show l=xn by have:=HL.o;omega);clear hln;go_wp2_with fail
       go_roundw
       case rel =>
        refine⟨j+1,by have:=HJN.o;omega,rfl,fun i e' h1 h2=>?_,KG.o⟩;by_cases h3:i<j
        ·exact HG.o i e' h1 h3
        ·obtain rfl:i=j:=by omega
         rw[HE.o] at h1;obtain rfl:=Option.some.inj h1;refine⟨by have h5:=LX.o;have h6:=HXM.o;show ts.length<=m;omega,fun t ht=>?_⟩;obtain⟨i2,h7⟩:=List.mem_iff_getElem?.1 (show t∈ts from ht);exact HG2.o i2 t h7 (by have h8:=(List.getElem?_eq_some_iff.1 h7).1;have h5:=LX.o;have h9:=HLE.o;omega)
       case measure=>simp[intOf];have:=HJN.o;omega
   ·have h1:(xn:Int)>(m:Int):=by omega
    have h2:(m:Int)<(xn:Int):=by omega
    clear hxm;go_wp2_with fail
    go_ret;exact BR.yes KG.o
  ·have hge:¬((j:Int)<(k:Int)):=by omega
   have HJE:=qh (show j=k by have:=HJ.o;omega);clear hjn;go_wp2_with fail
   go_ret
   refine BR.no KG.o fun e he=>?_
   obtain⟨i,h⟩:=List.mem_iff_getElem?.1 he;exact HG.o i e h (by have h8:=(List.getElem?_eq_some_iff.1 h).1;have h9:=HJE.o;have:=HK.o;omega)
theorem wide_any (x:PV) (ts:List TV) (w:World) (hr:RT w x.a ts) (hl:ts.length=x.n) (hn:x.n<=1000000000) :
  Calls Tryz.prog 6 #[x.v] w (BR w (∀ t∈ts,t.m.le 300)):=by
 obtain⟨xa,xn,xc⟩:=x;have RX:=qh hr;have LX:=qh (show ts.length=xn from hl);have NX:=qh (show xn<=1000000000 from hn);change Calls Tryz.prog 6 #[.slice xa xn xc] w _;clear hr hl hn;go_enter Tryz.func6,Tryz.ntmps6;go_wp2_with fail
 go_loopw [3] (fun i wr=>∃ j:Nat,j<=xn/\i=.int .i64 j/\(∀ i t,ts[i]?=some t->i<j->t.m.le 300)/\Below w.heap.size w wr) (fun i _=>xn-(intOf i).toNat)
 case atStart =>
  exact⟨0,Nat.zero_le _,rfl,fun i e _ h=>absurd h (Nat.not_lt_zero _),zk⟩
 case round =>
  obtain⟨j,hj,rfl,hg,hb0⟩:=hrel;have HJ:=qh hj;have HG:=qh hg;have KG:=qh hb0;clear hj hg hb0;by_cases hjn:j<xn
  ·have HJN:=qh hjn
   have hll:j<ts.length:=by rw[LX.o];exact hjn
   obtain⟨pb,po,rfl,hc⟩:=(RX.o.below KG.o).one (fun h=>by rw[h] at hll;simp at hll);obtain⟨t,ht⟩:∃ t,ts[j]?=some t:=⟨_,List.getElem?_eq_getElem hll⟩;have RE1:=qh (hc j t ht);have HT:=qh ht;have ek:IntKind.i64.wrap ((j:Int)+1)=(j:Int)+1:=IntWalk.i64_in _ (by have:=HJN.o;have:=NX.o;omega);obtain⟨W0,hW0⟩:∃ W,W=wr:=⟨_,rfl⟩;have KW:=qh (show Below W0.heap.size W0 wr by rw[hW0];exact zk);have KG0:=qh (show Below w.heap.size w W0 by rw[hW0];exact KG.o);rw[<- hW0] at RE1;clear hc ht hll hW0;go_wp2_with fail
   go_loopw [4] (fun i wr=>∃ l:Nat,l<=4/\i=.int .i64 l/\(∀ i,i<l->t.m.at i<=300)/\Below W0.heap.size W0 wr) (fun i _=>4-(intOf i).toNat)
   case atStart =>
    exact⟨0,Nat.zero_le _,rfl,fun i h=>absurd h (Nat.not_lt_zero _),KW.o⟩
   case round =>
    obtain⟨l,hl,rfl,hg2,hb0⟩:=hrel;have HG2:=qh hg2;have KW:=qh hb0;have KG:=qh (KG0.o.trans (hb0.mono KG0.o.size));obtain⟨d0,d1,d2,d3,d4,d5,d6,d7⟩:=(RE1.o.below hb0).eight;clear hg2 hb0;by_cases hl4:l<4
    ·have hl5:l=0\/l=1\/l=2\/l=3:=by omega
     clear hl hl4
     rcases hl5 with rfl | rfl | rfl | rfl
     ·by_cases hv:t.m.x<=300
      ·have g1:¬((t.m.x:Int)>300):=by omega
       have g2:¬((300:Int)<(t.m.x:Int)):=by omega
       have HV:=qh hv;clear hv;go_wp2_with fail
       go_roundw
       case rel =>
        refine⟨0+1,by omega,rfl,fun i hi=>?_,KW.o⟩;by_cases h3:i<0
        ·exact HG2.o i h3
        ·obtain rfl:i=0:=by omega
         exact HV.o
       case measure=>simp[intOf]
      ·have g1:(t.m.x:Int)>300:=by omega
       have g2:(300:Int)<(t.m.x:Int):=by omega
       clear hv;go_wp2_with fail
       go_ret;exact BR.yes KG.o
     ·by_cases hv:t.m.y<=300
      ·have g1:¬((t.m.y:Int)>300):=by omega
       have g2:¬((300:Int)<(t.m.y:Int)):=by omega
       have HV:=qh hv;clear hv;go_wp2_with fail
       go_roundw
       case rel =>
        refine⟨1+1,by omega,rfl,fun i hi=>?_,KW.o⟩;by_cases h3:i<1
        ·exact HG2.o i h3
        ·obtain rfl:i=1:=by omega
         exact HV.o
       case measure=>simp[intOf]
      ·have g1:(t.m.y:Int)>300:=by omega
       have g2:(300:Int)<(t.m.y:Int):=by omega
       clear hv;go_wp2_with fail
       go_ret;exact BR.yes KG.o
     ·by_cases hv:t.m.z<=300
      ·have g1:¬((t.m.z:Int)>300):=by omega
       have g2:¬((300:Int)<(t.m.z:Int)):=by omega
       have HV:=qh hv;clear hv;go_wp2_with fail
       go_roundw
       case rel =>
        refine⟨2+1,by omega,rfl,fun i hi=>?_,KW.o⟩;by_cases h3:i<2
        ·exact HG2.o i h3
        ·obtain rfl:i=2:=by omega
         exact HV.o
       case measure=>simp[intOf]
      ·have g1:(t.m.z:Int)>300:=by omega
       have g2:(300:Int)<(t.m.z:Int):=by omega
       clear hv;go_wp2_with fail
       go_ret;exact BR.yes KG.o
     ·by_cases hv:t.m.t<=300
      ·have g1:¬((t.m.t:Int)>300):=by omega
       have g2:¬((300:Int)<(t.m.t:Int)):=by omega
       have HV:=qh hv;clear hv;go_wp2_with fail
       go_roundw
       case rel =>
        refine⟨3+1,by omega,rfl,fun i hi=>?_,KW.o⟩;by_cases h3:i<3
        ·exact HG2.o i h3
        ·obtain rfl:i=3:=by omega
         exact HV.o
       case measure=>simp[intOf]
      ·have g1:(t.m.t:Int)>300:=by omega
       have g2:(300:Int)<(t.m.t:Int):=by omega
       clear hv;go_wp2_with fail
       go_ret;exact BR.yes KG.o
    ·obtain rfl:l=4:=by omega
     clear hl hl4;go_wp2_with fail
     go_roundw
     case rel =>
      refine⟨j+1,by have:=HJN.o;omega,rfl,fun i t' h1 h2=>?_,KG.o⟩;by_cases h3:i<j
      ·exact HG.o i t' h1 h3
      ·obtain rfl:i=j:=by omega
       rw[HT.o] at h1;obtain rfl:=Option.some.inj h1;exact⟨HG2.o 0 (by omega),HG2.o 1 (by omega),HG2.o 2 (by omega),HG2.o 3 (by omega)⟩
     case measure=>simp[intOf];have:=HJN.o;omega
  ·have hge:¬((j:Int)<(xn:Int)):=by omega
   have HJE:=qh (show j=xn by have:=HJ.o;omega);clear hjn;go_wp2_with fail
   go_ret
   refine BR.no KG.o fun t ht=>?_
   obtain⟨i,h⟩:=List.mem_iff_getElem?.1 ht;exact HG.o i t h (by have h8:=(List.getElem?_eq_some_iff.1 h).1;have h5:=LX.o;have h9:=HJE.o;omega)
structure TwN (w:World) (lo:Nat) (t x:NV) (o:Nat->Int):Prop where
 s:t.s=x.s
 n:t.n=x.n
 c:t.c=x.n+1
 own:Limb.Own 128 w lo t.a (x.n+1) (x.n+1) (tw o x.n)
structure TwF (w:World) (lo:Nat) (t x:FV) (o1 o2:Nat->Int):Prop where
 top:TwN w lo t.t x.t o1
 low:TwN w lo t.l x.l o2
 ap:Apart2 t.t.a t.l.a
theorem TwN.kept {w w':World} {lo:Nat} {t x:NV} {o:Nat->Int} (h:TwN w lo t x o) (hk:∀ b,t.blk b->w'.heap[b]?=w.heap[b]?):TwN w' lo t x o:=⟨h.s,h.n,h.c,h.own.kept hk⟩
theorem TwN.blks {w:World} {lo:Nat} {t x:NV} {o:Nat->Int} (h:TwN w lo t x o):∀ b,t.blk b->lo<=b/\b<w.heap.size:=fun b ⟨p,hp,e⟩=>by
 rcases h.own.place with h0 | ⟨g,cur,ha,hlo,hg,_⟩
 ·rw[h0.1] at hp;cases hp
 ·rw[ha] at hp
  cases hp
  subst e;exact⟨hlo,lt_of_block hg⟩
theorem TwN.below {w w':World} {lo:Nat} {t x:NV} {o:Nat->Int} (h:TwN w lo t x o) (hb:Below w.heap.size w w'):TwN w' lo t x o:=h.kept fun b h1=>hb.block b (h.blks b h1).2
theorem TwN.mono {w:World} {lo lo':Nat} {t x:NV} {o:Nat->Int} (h:TwN w lo t x o) (hl:lo'<=lo):TwN w lo' t x o:=⟨h.s,h.n,h.c,h.own.mono hl⟩
theorem TwF.kept {w w':World} {lo:Nat} {t x:FV} {o1 o2:Nat->Int} (h:TwF w lo t x o1 o2) (hk:∀ b,FV.blk t b->w'.heap[b]?=w.heap[b]?):TwF w' lo t x o1 o2:=⟨h.top.kept fun b hb=>hk b (Or.inl hb),h.low.kept fun b hb=>hk b (Or.inr hb),h.ap⟩
theorem TwF.blks {w:World} {lo:Nat} {t x:FV} {o1 o2:Nat->Int} (h:TwF w lo t x o1 o2):∀ b,FV.blk t b->lo<=b/\b<w.heap.size:=fun b hb=>hb.elim (h.top.blks b) (h.low.blks b)
theorem TwF.below {w w':World} {lo:Nat} {t x:FV} {o1 o2:Nat->Int} (h:TwF w lo t x o1 o2) (hb:Below w.heap.size w w'):TwF w' lo t x o1 o2:=⟨h.top.below hb,h.low.below hb,h.ap⟩
theorem TwF.mono {w:World} {lo lo':Nat} {t x:FV} {o1 o2:Nat->Int} (h:TwF w lo t x o1 o2) (hl:lo'<=lo):TwF w lo' t x o1 o2:=⟨h.top.mono hl,h.low.mono hl,h.ap⟩
theorem TwF.put {w:World} {lo:Nat} {t x:FV} {o1 o2:Nat->Int} (h:TwF w lo t x o1 o2) {b:Nat} (hb:∀ g,FV.blk t g->g≠b) (v0 v1 v2 v3 v4 v5 v6 v7:Value):TwF (put8 w b v0 v1 v2 v3 v4 v5 v6 v7) lo t x o1 o2:=by
 have h1:∀ (u:World) (i:Nat) (v:Value) (g:Nat),g≠b->(u.setCell ⟨b,i,none⟩ v).heap[g]?=u.heap[g]?:=fun u i v g hne=>Below.heap_setCell _ _ _ _ hne
 refine h.kept fun g hg=>?_
 have hne:=hb g hg;unfold put8;rw[h1 _ _ _ _ hne,h1 _ _ _ _ hne,h1 _ _ _ _ hne,h1 _ _ _ _ hne,h1 _ _ _ _ hne,h1 _ _ _ _ hne,h1 _ _ _ _ hne,h1 _ _ _ _ hne]
theorem twinF_any (x:FV) (o1 o2:Nat->Int) (w:World) (h1:Rd w x.t.a x.t.n o1) (hn1:x.t.n<=100000000) (h2:Rd w x.l.a x.l.n o2) (hn2:x.l.n<=100000000) :
  Calls Tryz.prog 99 #[x.v] w fun e w'=>∃ y:FV,e=.returned y.v/\TwF w' w.heap.size y x o1 o2/\Below w.heap.size w w' :=
 (twinFrac_any x.t.s x.t.a x.t.n x.t.c o1 x.l.s x.l.a x.l.n x.l.c o2 w h1 hn1 h2 hn2).mono fun e w' ⟨g1,g2,he,p1,p2,hne,hb⟩ =>
  ⟨⟨⟨x.t.s,some ⟨g1,0,none⟩,x.t.n,x.t.n+1⟩,⟨x.l.s,some ⟨g2,0,none⟩,x.l.n,x.l.n+1⟩⟩,he,⟨⟨rfl,rfl,rfl,p1⟩,⟨rfl,rfl,rfl,p2⟩,fun p q hp hq=>by cases hp;cases hq;exact hne⟩,hb⟩
theorem twinTerm_any (t:TV) (o1 o2:Nat->Int) (w:World) (h1:Rd w t.c.t.a t.c.t.n o1) (hn1:t.c.t.n<=100000000) (h2:Rd w t.c.l.a t.c.l.n o2) (hn2:t.c.l.n<=100000000) :
  Calls Tryz.prog 29 #[TV.v t] w fun e w'=>∃ y:FV,e=.returned (TV.v ⟨y,t.m⟩)/\TwF w' w.heap.size y t.c o1 o2/\Below w.heap.size w w':=by
 obtain⟨V,hV⟩:∃ V,V=(w.alloc (.cells #[.bool t.c.t.s,.slice t.c.t.a t.c.t.n t.c.t.c,.bool t.c.l.s,.slice t.c.l.a t.c.l.n t.c.l.c,.int .u16 t.m.x,.int .u16 t.m.y,.int .u16 t.m.z,.int .u16 t.m.t] 37)).alloc (.cells #[.bool false,.slice none 0 0,.bool false,.slice none 0 0,.int .u16 0,.int .u16 0,.int .u16 0,.int .u16 0] 37):=⟨_,rfl⟩
 have hbV:Below w.heap.size w V:=by rw[hV];exact(zk.alloc zj _).alloc (by go_size) _
 have B1:=qh (show Bxs V w.heap.size 37 [.bool t.c.t.s,.slice t.c.t.a t.c.t.n t.c.t.c,.bool t.c.l.s,.slice t.c.l.a t.c.l.n t.c.l.c,.int .u16 t.m.x,.int .u16 t.m.y,.int .u16 t.m.z,.int .u16 t.m.t] by rw[hV];exact(Bxs.new w 37 [.bool t.c.t.s,.slice t.c.t.a t.c.t.n t.c.t.c,.bool t.c.l.s,.slice t.c.l.a t.c.l.n t.c.l.c,.int .u16 t.m.x,.int .u16 t.m.y,.int .u16 t.m.z,.int .u16 t.m.t]).alloc _)
 have B2:=qh (show Bxs V (w.heap.size+1) 37 [.bool false,.slice none 0 0,.bool false,.slice none 0 0,.int .u16 0,.int .u16 0,.int .u16 0,.int .u16 0] by
  have h:=Bxs.new (w.alloc (.cells #[.bool t.c.t.s,.slice t.c.t.a t.c.t.n t.c.t.c,.bool t.c.l.s,.slice t.c.l.a t.c.l.n t.c.l.c,.int .u16 t.m.x,.int .u16 t.m.y,.int .u16 t.m.z,.int .u16 t.m.t] 37)) 37 [.bool false,.slice none 0 0,.bool false,.slice none 0 0,.int .u16 0,.int .u16 0,.int .u16 0,.int .u16 0];rw[World.size_alloc] at h
  rw[hV];exact h)
 have HR1:=qh (h1.below hbV);have HR2:=qh (h2.below hbV);have HN1:=qh hn1;have HN2:=qh hn2;have KG:=qh hbV;have HV:=qh hV;obtain⟨A2,hA2⟩:∃ A,A=w.heap.size+1:=⟨_,rfl⟩;have HA2:=qh (show w.heap.size<=A2 by omega);rw[<- hA2] at B2;have HA3:=qh hA2;have HAV:=qh B2.o.lt;have HSZ:=qh KG.o.size;clear hV hbV h1 h2 hn1 hn2 hA2;change Calls Tryz.prog 29 #[.agg #[.bool t.c.t.s,.slice t.c.t.a t.c.t.n t.c.t.c,.bool t.c.l.s,.slice t.c.l.a t.c.l.n t.c.l.c,.int .u16 t.m.x,.int .u16 t.m.y,.int .u16 t.m.z,.int .u16 t.m.t]] w _;go_enter Tryz.func29,Tryz.ntmps29
 go_upto_region 1 with (fail)
 rw[show(w.alloc (.cells #[.bool t.c.t.s,.slice t.c.t.a t.c.t.n t.c.t.c,.bool t.c.l.s,.slice t.c.l.a t.c.l.n t.c.l.c,.int .u16 t.m.x,.int .u16 t.m.y,.int .u16 t.m.z,.int .u16 t.m.t] 37)).alloc (.cells #[.bool false,.slice none 0 0,.bool false,.slice none 0 0,.int .u16 0,.int .u16 0,.int .u16 0,.int .u16 0] 37)=V from HV.o.symm,show w.heap.size+1=A2 from HA3.o.symm]
 go_upto_region 1 with (fail)
 refine FS.wp_region_fresh 6 [] (FS.spOf [(2,FS.Sp.made (fun x:FV=>x.v) (fun x w'=>TwF w' V.heap.size x t.c o1 o2) FV.blk)])
  (fun w'=>Below V.heap.size V w') (by kernel_rfl) (by kernel_rfl) (by kernel_rfl)
  (FS.spOf_cons (FS.Sp.made_keeps _ (fun _ _ _ h _ hk=>h.kept hk) (FS.notTaken (by kernel_rfl))) (FS.spOf_nil)) (fun _ _ h hb=>h.trans (hb.mono h.size)) (zk.drew) ?_
 simp only[zu,zi,ze,zx,zy,zv,zw]
 iterate 2
  refine FS.wpF_reads rfl rfl rfl ?_ (fun w' hw'=>?_) ?_;rotate_left
  ·have hb':=hw'.world;have hs0:=(B1.o.bl hb').ce 0;have hs1:=(B1.o.bl hb').ce 1;have hs2:=(B1.o.bl hb').ce 2;have hs3:=(B1.o.bl hb').ce 3;have hs4:=(B1.o.bl hb').ce 4;have hs5:=(B1.o.bl hb').ce 5;have hs6:=(B1.o.bl hb').ce 6;have hs7:=(B1.o.bl hb').ce 7;have hsf:=(B1.o.bl hb').fz;have hsl:=(B1.o.bl hb').lt;clear hw';go_simp
   try rfl
  conv=>arg 10;simp only[Act.put,zq0,zq1,zq2]
 refine FS.wpF_spec rfl rfl rfl (fun w' hw'=>?_) ?_
 ·have hb':=hw'.world;refine FS.gives_of (FS.PM (fun x:FV=>x.v) (fun x w'=>TwF w' V.heap.size x t.c o1 o2) FV.blk w'.heap.size) ?_ (fun _ _ h=>h.post (fun _ _=>FV.inj));go_simp;have CT:=(show Calls Tryz.prog 99 #[.agg #[.bool t.c.t.s,.slice t.c.t.a t.c.t.n t.c.t.c,.bool t.c.l.s,.slice t.c.l.a t.c.l.n t.c.l.c]] w' _ from twinF_any t.c o1 o2 w' (HR1.o.below hb') HN1.o (HR2.o.below hb') HN2.o);refine CT.mono ?_;rintro e w'' ⟨za,rfl,ho,hb⟩;exact⟨_,rfl,⟨za,rfl,ho.mono hb'.size,ho.blks⟩,hb⟩
 rintro _ ⟨y2,rfl⟩
 conv=>arg 10;simp only[Act.put,zq0,zq1,zq2]
 iterate 3
  refine FS.wpF_reads rfl rfl rfl ?_ (fun w' hw'=>?_) ?_;rotate_left
  ·have hb':=hw'.world;have hs0:=(B1.o.bl hb').ce 0;have hs1:=(B1.o.bl hb').ce 1;have hs2:=(B1.o.bl hb').ce 2;have hs3:=(B1.o.bl hb').ce 3;have hs4:=(B1.o.bl hb').ce 4;have hs5:=(B1.o.bl hb').ce 5;have hs6:=(B1.o.bl hb').ce 6;have hs7:=(B1.o.bl hb').ce 7;have hsf:=(B1.o.bl hb').fz;have hsl:=(B1.o.bl hb').lt;clear hw';go_simp
   try rfl
  conv=>arg 10;simp only[Act.put,zq0,zq1,zq2]
 refine FS.wpF_nil (fun w101 hb hF=>?_);have N102:=qh (show TwF w101 V.heap.size y2 t.c o1 o2 from(FS.made_of (val:=(fun x:FV=>x.v)) (Φ:=fun x w'=>TwF w' V.heap.size x t.c o1 o2) (fun _ _=>FV.inj) (hF.all 2)));clear hF;have B1:=qh (B1.o.bl hb);have B2:=qh (B2.o.bl hb);have KG:=qk KG hb;clear hb;have HD:=qh (show TwF (put8 w101 A2 (.bool y2.t.s) (.slice y2.t.a y2.t.n y2.t.c) (.bool y2.l.s) (.slice y2.l.a y2.l.n y2.l.c) (.int .u16 t.m.x) (.int .u16 t.m.y) (.int .u16 t.m.z) (.int .u16 t.m.t)) w.heap.size y2 t.c o1 o2 from(N102.o.put (fun g hg=>by have:=(N102.o.blks g hg).1;have:=HAV.o;omega) ..).mono HSZ.o);have HB:=qh (show Below w.heap.size w (put8 w101 A2 (.bool y2.t.s) (.slice y2.t.a y2.t.n y2.t.c) (.bool y2.l.s) (.slice y2.l.a y2.l.n y2.l.c) (.int .u16 t.m.x) (.int .u16 t.m.y) (.int .u16 t.m.z) (.int .u16 t.m.t)) from put8_below KG.o HA2.o ..);have c20:=B2.o.ce 0;have c21:=B2.o.ce 1;have c22:=B2.o.ce 2;have c23:=B2.o.ce 3;have c24:=B2.o.ce 4;have c25:=B2.o.ce 5;have c26:=B2.o.ce 6;have c27:=B2.o.ce 7;have c2f:=B2.o.fz;have c2l:=B2.o.lt;go_wp2_with fail
 exact bodyPost_ret (results_cell rfl _ _ _ _ _ _ _ rfl (put8_bxs B2.o ..) Tryz.underlying37 rfl (by kernel_rfl)) rfl ⟨y2,rfl,HD.o,HB.o⟩
open Go.ChangeShapes Go.WideShapes Go.ChangeAt
structure FZ (x:FV) (z:Int):Prop where
 lo:0<=z
 hi:z<=1000000000000000
 is:z<=1000->x.t.n<=z.toNat/\x.l.n<=z.toNat
structure AQ (w:World) (x:FV):Prop where
 af:∃ q,AF w x q
 cs:(∃ q,KF w x q)\/BF w x
 t:x.t.n<=281474976710656
 l:x.l.n<=281474976710656
theorem AQ.below {w w':World} {x:FV} (h:AQ w x) (hb:Below w.heap.size w w'):AQ w' x:=⟨h.af.imp fun q h=>h.below hb,h.cs.imp (fun ⟨q,h⟩=>⟨q,h.below hb⟩) (fun h=>h.below hb),h.t,h.l⟩
end Pol
namespace Pol
open Go.RowKit Go.Sort Limb
theorem degP_snoc (A:List Tm) (t:Tm) (i:Nat):degP (A++[t]) i=max (degP A i) (t.1.at i:Int):=by
 unfold degP;rw[List.foldl_append];rfl
theorem degree_out (x:PV) (l:Int) (hl:l<0\/4<=l) (w:World):Calls Tryz.prog 12 #[x.v,.int .i64 l] w fun e w'=>e=.returned (.int .i64 (-1))/\Below w.heap.size w w':=by
 obtain⟨xa,xn,xc⟩:=x;change Calls Tryz.prog 12 #[.slice xa xn xc,.int .i64 l] w _;by_cases h:l<0
 ·go_enter Tryz.func12,Tryz.ntmps12;go_wp2_with fail
  go_ret;exact⟨rfl,zk⟩
 ·have h2:4<=l:=by omega
  have h3:l ≥ 4:=by omega
  clear hl;go_enter Tryz.func12,Tryz.ntmps12;go_wp2_with fail
  go_ret;exact⟨rfl,zk⟩
theorem degree_k (li:Nat) (hi:li<4) (x:PV) (P:List Tm) (w:World) (hx:AP w x P) (hp:∀ t∈P,LQ t.2 900000) (hn:x.n<=1000000):Calls Tryz.prog 12 #[x.v,.int .i64 (li:Int)] w fun e w'=>e=.returned (.int .i64 (degP P li))/\Below w.heap.size w w':=by
 have HI:=qh hi
 have hi1:(li:Int)<4:=by omega
 have hi2:¬((li:Int)<0):=by omega
 have hi3:(0:Int)<=(li:Int):=by omega
 have hi4:¬((li:Int) ≥ 4):=by omega
 have hi5:¬((4:Int)<=(li:Int)):=by omega
 have OF:=qh (of_at hx zk hp (by omega));have HNN:=qh hn;have HSM:=qh hx.small;obtain⟨xa,xn,xc⟩:=x;change Calls Tryz.prog 12 #[.slice xa xn xc,.int .i64 (li:Int)] w _;clear hi hx hp hn;go_enter Tryz.func12,Tryz.ntmps12;go_wp2_with fail
 with_reducible refine OF.o.mono ?_
 rintro e w1 ⟨⟨pa,pn,pc⟩,he,hp,hpn,hb⟩;obtain rfl:e=.returned (.slice pa pn pc):=he;obtain⟨L,g1,g2,g3,g4⟩:=hp.ex;have R1:=qh g1;have T1:=qh g4;have N1:=qh (show L.length=pn from g2);have HPN:=qh (show pn<=1000000 from zm hpn HNN.o);have KG:=qh hb;clear hp hpn hb g1 g2 g3 g4 OF;go_wp2_with fail
 go_loopw [5,18] (fun s i wr=>∃ j:Nat,j<=pn/\i=.int .i64 j/\s=.int .i64 (degP (P.take j) li)/\Below w.heap.size w wr) (fun _ i _=>pn-(intOf i).toNat)
 case atStart =>
  exact⟨0,Nat.zero_le _,rfl,rfl,KG.o⟩
 case round =>
  obtain⟨j,hj,rfl,rfl,hb0⟩:=hrel;have HJ:=qh hj;have KG:=qh hb0;clear hj hb0;by_cases hjn:j<pn
  ·have HJN:=qh hjn
   have hjl:j<L.length:=by rw[N1.o];exact hjn
   obtain⟨pb,po,rfl,hcs⟩:=(R1.o.below KG.o).one (fun h=>by rw[List.map_eq_nil_iff] at h;rw[h] at hjl;simp at hjl);obtain⟨e,he⟩:∃ e,L[j]?=some e:=⟨_,List.getElem?_eq_getElem hjl⟩;obtain⟨t,q⟩:=e;obtain⟨c0,c1,c2,c3,c4,c5,c6,c7⟩:=(hcs j t (by rw[List.getElem?_map,he];rfl)).eight;have HPJ:=qh (show P[j]?=some (t.m,q) by rw[<- T1.o,List.getElem?_map,he];rfl);clear hcs he hjl
   go_upto_region 7 with (fail)
   obtain⟨V,hV⟩:∃ V,V=wr.alloc (.cells #[.bool t.c.t.s,.slice t.c.t.a t.c.t.n t.c.t.c,.bool t.c.l.s,.slice t.c.l.a t.c.l.n t.c.l.c,.int .u16 t.m.x,.int .u16 t.m.y,.int .u16 t.m.z,.int .u16 t.m.t] 37):=⟨_,rfl⟩
   have hbV:Below wr.heap.size wr V:=by rw[hV];exact zk.alloc zj _
   have B7:=qh (show Bxs V wr.heap.size 37 [.bool t.c.t.s,.slice t.c.t.a t.c.t.n t.c.t.c,.bool t.c.l.s,.slice t.c.l.a t.c.l.n t.c.l.c,.int .u16 t.m.x,.int .u16 t.m.y,.int .u16 t.m.z,.int .u16 t.m.t] by rw[hV];exact Bxs.new wr 37 [.bool t.c.t.s,.slice t.c.t.a t.c.t.n t.c.t.c,.bool t.c.l.s,.slice t.c.l.a t.c.l.n t.c.l.c,.int .u16 t.m.x,.int .u16 t.m.y,.int .u16 t.m.z,.int .u16 t.m.t]);obtain⟨A7,hA7⟩:∃ A,A=wr.heap.size:=⟨_,rfl⟩;rw[<- hV,<- hA7];rw[<- hA7] at B7;have KG:=qk KG hbV;have ek:IntKind.i64.wrap ((j:Int)+1)=(j:Int)+1:=IntWalk.i64_in _ (by have:=HJN.o;have:=HPN.o;omega);clear hV hbV hA7 c0 c1 c2 c3 c4 c5 c6 c7 hjn;have c0:=B7.o.ce 0;have c1:=B7.o.ce 1;have c2:=B7.o.ce 2;have c3:=B7.o.ce 3;have c4:=B7.o.ce 4;have c5:=B7.o.ce 5;have c6:=B7.o.ce 6;have c7:=B7.o.ce 7;have cL:=B7.o.cell (i:=4+li) (at_cell _ _ _ _ _ HI.o);go_wp2_with fail
   go_roundw
   case rel =>
    refine⟨j+1,by have:=HJN.o;omega,rfl,?_,KG.o⟩;rw[List.take_add_one,HPJ.o];show _=Value.int .i64 (degP (P.take j++[(t.m,q)]) li);have hs:t.m.at li<=65535:=at_small (HSM.o _ (List.mem_of_getElem? HPJ.o)) li;rw[degP_snoc,show wrap64 ((t.m.at li:Nat):Int)=((t.m.at li:Nat):Int) from by unfold wrap64;omega]
   case measure=>simp[intOf];have:=HJN.o;omega
  ·have hge:¬((j:Int)<(pn:Int)):=by omega
   have HJE:=qh (show j=pn by have:=HJ.o;omega);clear hjn;go_wp2_with fail
   go_ret;refine⟨?_,KG.o⟩
   have hl:P.length=L.length:=by rw[<- T1.o,List.length_map]
   rw[List.take_of_length_le (by rw[hl,N1.o,HJE.o];exact zj)];rfl
theorem eqM_run (a b:Mo) (w:World):(binOp BinOp.eql 35 (Mo.v a) (Mo.v b)).run Tryz.prog w=.ok (.bool (decide (a=b))) w:=by
 have h:=run_eqM a b w;have e:binOp BinOp.eql 35 (Mo.v a) (Mo.v b)=(do pure (.bool (<- Op.equal 35 (Mo.v a) (Mo.v b)))):=rfl;rw[e];simp only[Sem.run_bind,h];rfl
end Pol
namespace Book
open Go.RowKit Go.Sort Go.FreshG Limb Pol
def termsL:List TV->Nat->List HL
 | [],_=>[]
 | t :: r,q=>⟨t.c.t.a,t.c.t.n,t.c.t.c,q⟩ :: ⟨t.c.l.a,t.c.l.n,t.c.l.c,q+1⟩ :: termsL r (q+2)
theorem termsL_len:∀ (ts:List TV) (q:Nat),(termsL ts q).length=2*ts.length
 | [],_=>rfl
 | t :: r,q=>by
  show(termsL r (q+2)).length+1+1=2*(r.length+1);rw[termsL_len r (q+2)];omega
theorem termsL_snoc:∀ (ts:List TV) (t:TV) (q:Nat),termsL (ts++[t]) q=termsL ts q++[⟨t.c.t.a,t.c.t.n,t.c.t.c,q+2*ts.length⟩]++[⟨t.c.l.a,t.c.l.n,t.c.l.c,q+2*ts.length+1⟩]
 | [],t,q=>rfl
 | s :: r,t,q=>by
  show(⟨s.c.t.a,s.c.t.n,s.c.t.c,q⟩:HL) :: ⟨s.c.l.a,s.c.l.n,s.c.l.c,q+1⟩ :: termsL (r++[t]) (q+2)=⟨s.c.t.a,s.c.t.n,s.c.t.c,q⟩ :: ⟨s.c.l.a,s.c.l.n,s.c.l.c,q+1⟩ :: (termsL r (q+2)++[_]++[_]);rw[termsL_snoc r t (q+2),List.length_cons,show q+2+2*r.length=q+2*(r.length+1) by omega]
theorem RE.keepB {base:Nat} {w w':World} {b o i:Nat} {t:TV} (h:RE w b o i t) (hk:KeepB base w w') (hb:b<base):RE w' b o i t :=
 ⟨Nat.lt_of_lt_of_le h.lt hk.bel.size,fun j v hj=>(World.cell?_of_block (a:=⟨b,o+i*8+j,none⟩) (hk.bel.block b hb)).trans (h.cell j v hj)⟩
theorem BkS.term {w:World} {b base q:Nat} {L M:List HL} (h:BkS w b base q L M) (hk:L.length<=29990) (hq:q<=59990) (t:TV) :
  Calls Tryz.prog 18 #[.pointer (some ⟨b,0,none⟩),TV.v t] w (KeptS b base (q+2) (fracL L q t.c.t.a t.c.t.n t.c.t.c t.c.l.a t.c.l.n t.c.l.c) M w):=by
 obtain⟨V,hV⟩:∃ V,V=w.alloc (.cells #[.bool t.c.t.s,.slice t.c.t.a t.c.t.n t.c.t.c,.bool t.c.l.s,.slice t.c.l.a t.c.l.n t.c.l.c,.int .u16 t.m.x,.int .u16 t.m.y,.int .u16 t.m.z,.int .u16 t.m.t] 37):=⟨_,rfl⟩;have HS:=qh (show BkS V b base q L M by rw[hV];exact h.alloc _);have HA:=qh (show KeepB base w V by rw[hV];exact KeepB.alloc h.hw _);have B3:=qh (show Bxs V w.heap.size 37 [.bool t.c.t.s,.slice t.c.t.a t.c.t.n t.c.t.c,.bool t.c.l.s,.slice t.c.l.a t.c.l.n t.c.l.c,.int .u16 t.m.x,.int .u16 t.m.y,.int .u16 t.m.z,.int .u16 t.m.t] by rw[hV];exact Bxs.new w 37 [.bool t.c.t.s,.slice t.c.t.a t.c.t.n t.c.t.c,.bool t.c.l.s,.slice t.c.l.a t.c.l.n t.c.l.c,.int .u16 t.m.x,.int .u16 t.m.y,.int .u16 t.m.z,.int .u16 t.m.t]);have HV:=qh hV;have K:=qh (HS.o.frac hk hq t.c.t.s t.c.t.a t.c.t.n t.c.t.c t.c.l.s t.c.l.a t.c.l.n t.c.l.c);clear h hk hq hV;change Calls Tryz.prog 18 #[.pointer (some ⟨b,0,none⟩),.agg #[.bool t.c.t.s,.slice t.c.t.a t.c.t.n t.c.t.c,.bool t.c.l.s,.slice t.c.l.a t.c.l.n t.c.l.c,.int .u16 t.m.x,.int .u16 t.m.y,.int .u16 t.m.z,.int .u16 t.m.t]] w _;go_enter Tryz.func18,Tryz.ntmps18
 go_upto_region 1 with (fail)
 rw[show w.alloc (.cells #[.bool t.c.t.s,.slice t.c.t.a t.c.t.n t.c.t.c,.bool t.c.l.s,.slice t.c.l.a t.c.l.n t.c.l.c,.int .u16 t.m.x,.int .u16 t.m.y,.int .u16 t.m.z,.int .u16 t.m.t] 37)=V from HV.o.symm];have c0:=B3.o.ce 0;have c1:=B3.o.ce 1;have c2:=B3.o.ce 2;have c3:=B3.o.ce 3;go_wp2_with fail
 refine K.o.mono ?_;rintro e w1 ⟨⟨r,rfl⟩,h⟩;have H:=qh h;clear h c0 c1 c2 c3;go_wp2_with fail
 (try simp only[Exit.inBlock,Exit.then])
 refine bodyPost_end (results_none rfl _ _ _) rfl ?_;exact⟨⟨_,rfl⟩,H.o.1,HA.o.trans H.o.2⟩
theorem BkS.poly {w:World} {b base q:Nat} {L M:List HL} (h:BkS w b base q L M) (x:PV) (ts:List TV) (hr:RT w x.a ts) (hn:ts.length=x.n) (hfar:∀ p,x.a=some p->p.block<base) (hk:L.length+2*x.n<=29990) (hq:q+2*x.n<=59990) (hm:M.length<=30000) :
  Calls Tryz.prog 17 #[.pointer (some ⟨b,0,none⟩),x.v] w (KeptS b base (q+2*x.n+1) (L++termsL ts q) (M++[⟨x.a,x.n,x.c,q+2*x.n⟩]) w):=by
 obtain⟨xa,xn,xc⟩:=x;have HS:=qh h;have HR:=qh (show RT w xa ts from hr);have HN:=qh (show ts.length=xn from hn);have HF:=qh hfar;have HK:=qh (show L.length+2*xn<=29990 from hk);have HQ:=qh (show q+2*xn<=59990 from hq);have HM:=qh hm;clear h hr hn hfar hk hq hm;change Calls Tryz.prog 17 #[.pointer (some ⟨b,0,none⟩),.slice xa xn xc] w _;go_enter Tryz.func17,Tryz.ntmps17;go_wp2_with fail
 go_loopw [4] (fun i wr=>∃ j:Nat,j<=xn/\i=.int .i64 j/\BkS wr b base (q+2*j) (L++termsL (ts.take j) q) M/\KeepB base w wr) (fun i _=>xn-(intOf i).toNat)
 case atStart=>exact⟨0,Nat.zero_le _,rfl,by simpa[termsL] using HS.o,KeepB.refl _ _⟩
 case round =>
  obtain⟨j,hj,rfl,hs,hkb⟩:=hrel;have HJ:=qh hj;have HS:=qh hs;have KB:=qh hkb;clear hj hs hkb;by_cases hjn:j<xn
  ·have HJN:=qh hjn
   have hlt:(j:Int)<(xn:Int):=by omega
   obtain⟨t,ht⟩:∃ t,ts[j]?=some t:=⟨_,List.getElem?_eq_getElem (by rw[HN.o];exact hjn)⟩;obtain⟨pb,po,rfl,hre⟩:=HR.o.one (fun e=>by rw[e] at ht;simp at ht);have HT:=qh ht;have E1:=qh (RE.keepB (hre j t ht) KB.o (HF.o _ rfl));have ek:IntKind.i64.wrap ((j:Int)+1)=(j:Int)+1:=IntWalk.i64_in _ (by have:=HJN.o;have:=HK.o;omega)
   have hll:(ts.take j).length=j:=by rw[List.length_take,HN.o];omega
   have HLL:=qh hll;have CT:=qh (show Calls Tryz.prog 18 #[.pointer (some ⟨b,0,none⟩),.agg #[.bool t.c.t.s,.slice t.c.t.a t.c.t.n t.c.t.c,.bool t.c.l.s,.slice t.c.l.a t.c.l.n t.c.l.c,.int .u16 t.m.x,.int .u16 t.m.y,.int .u16 t.m.z,.int .u16 t.m.t]] wr _ from HS.o.term (by rw[List.length_append,termsL_len,hll];have:=HJN.o;have:=HK.o;omega) (by have:=HJN.o;have:=HQ.o;omega) t);obtain⟨c0,c1,c2,c3,c4,c5,c6,c7⟩:=E1.o.eight;clear hjn ht hre hll;go_wp2_with fail
   with_reducible refine CT.o.mono ?_
   rintro e w1 ⟨⟨r,rfl⟩,hs,hk⟩
   have HS2:=qh (show BkS w1 b base (q+2*(j+1)) (L++termsL (ts.take (j+1)) q) M by
    rw[List.take_add_one,HT.o];show BkS w1 b base (q+2*(j+1)) (L++termsL (ts.take j++[t]) q) M;rw[termsL_snoc,HLL.o,<- List.append_assoc,<- List.append_assoc]
    exact hs)
   have KB:=qh (KB.o.trans hk);clear hs hk CT c0 c1 c2 c3 c4 c5 c6 c7;go_wp2_with fail
   go_roundw
   case rel=>exact⟨j+1,HJN.o,rfl,HS2.o,KB.o⟩
   case measure=>simp[intOf];have:=HJN.o;omega
  ·have hge:¬((j:Int)<(xn:Int)):=by omega
   obtain rfl:j=xn:=by have:=HJ.o;omega
   have HAL:=qh (show ts.take j=ts from List.take_of_length_le (by rw[HN.o];exact zj));have HS2:=qh (show BkS wr b base (q+2*j) (L++termsL ts q) M by rw[<- HAL.o];exact HS.o);have K:=qh (HS2.o.keepT HM.o (by have:=HQ.o;omega) xa j xc);clear hjn;go_wp2_with fail
   refine K.o.mono ?_;rintro e w1 ⟨⟨r,rfl⟩,h⟩;have H:=qh h;clear h;go_wp2_with fail
   (try simp only[Exit.inBlock,Exit.then])
   refine bodyPost_end (results_none rfl _ _ _) rfl ?_;exact⟨⟨_,rfl⟩,H.o.1,KB.o.trans H.o.2⟩
end Book
namespace Pol
open Go.RowKit Go.Sort Limb
def moF (m:Mo):Nat->Int:=fun i=>((m.at i:Nat):Int)
theorem moF_small {m:Mo} (h:m.Small):Mono.Small (moF m):=fun i _=>⟨Int.natCast_nonneg _,by have:=at_small h i;unfold moF;omega⟩
theorem moF_mul (a b:Mo) (i:Nat):moF (a.mul b) i=moF a i+moF b i:=by unfold moF;rw[at_mul];omega
def keyO (o:Int) (m:Mo):Int:=Mono.KO o (moF m)
theorem keyO_key (o:Int):Key 65535 (keyO o) where
 add a b ha hb hab:=by
  have hB:Mono.mulB (moF a) (moF b)=true:=decide_eq_true (by
   obtain⟨h1,h2,h3,h4⟩:=hab;rw[<- moF_mul,<- moF_mul,<- moF_mul,<- moF_mul];show((a.mul b).x:Int)<=65535/\((a.mul b).y:Int)<=65535/\((a.mul b).z:Int)<=65535/\((a.mul b).t:Int)<=65535
   omega)
  have h:=Mono.KO_mul (o:=o) hB;unfold keyO;rw[<- h]
  congr 1
  funext i;unfold Mono.mulM;rw[if_pos hB,moF_mul]
 inj a b ha hb h:=by
  have h1:=(Mono.KO_same (moF_small (show a.Small from ha)) (moF_small (show b.Small from hb))).1 h;rw[Mo.eq_iff]
  have g:=fun k hk=>Int.ofNat.inj (show((a.at k:Nat):Int)=((b.at k:Nat):Int) from h1 k hk)
  exact⟨g 0 (by omega),g 1 (by omega),g 2 (by omega),g 3 (by omega)⟩
theorem cmpZ_dec {a b:Int}:Mono.cmpZ a b>0↔b<a:=by
 rcases Int.lt_trichotomy a b with h | h | h
 ·rw[Mono.cmpZ_lt h];omega
 ·rw[Mono.cmpZ_eq h];omega
 ·rw[Mono.cmpZ_gt h];omega
theorem max_any (G:Nat) (cs:Array Value) (x:PV) (ts:List TV) (K:Mo->Int) (w:World) (hr:RT w x.a ts) (hl:ts.length=x.n) (hn:x.n<=1000000) (hne:ts≠[]) (hs:∀ t∈ts,t.m.Small)
  (hcf:∀ (args:Array Value) (w:World),(callFunc G args).run Tryz.prog w=.ok (.enter G args) w)
  (hF:∀ t u:TV,t.m.Small->u.m.Small->∀ w1,Below w.heap.size w w1->Calls Tryz.prog G (#[TV.v t,TV.v u]++cs) w1 fun e w'=>e=.returned (.int .i64 (Mono.cmpZ (K t.m) (K u.m)))/\Below w1.heap.size w1 w') :
  Calls Tryz.prog 31 #[x.v,.func (.func G) #[] cs] w fun e w'=>∃ t,t∈ts/\(∀ u∈ts,K u.m<=K t.m)/\e=.returned (TV.v t)/\Below w.heap.size w w':=by
 obtain⟨xa,xn,xc⟩:=x;change Calls Tryz.prog 31 #[.slice xa xn xc,.func (.func G) #[] cs] w _;have HL:=qh (show ts.length=xn from hl);have HN:=qh (show xn<=1000000 from hn);have HS:=qh hs;have HF:=qh hF;obtain⟨pb,po,rfl,hc⟩:=RT.one hr hne;have HE:=qh hc;have HP:=qh (show 0<xn by rw[<- HL.o];exact List.length_pos_iff.2 hne);obtain⟨t0,ht0⟩:∃ t,ts[0]?=some t:=⟨_,List.getElem?_eq_getElem (List.length_pos_iff.2 hne)⟩;have HT0:=qh ht0
 have h1:¬((xn:Int)<1):=by have:=HP.o;omega
 obtain⟨V,hV⟩:∃ V,V=w.alloc (.cells #[.bool false,.slice none 0 0,.bool false,.slice none 0 0,.int .u16 0,.int .u16 0,.int .u16 0,.int .u16 0] 37):=⟨_,rfl⟩
 have hbV:Below w.heap.size w V:=by rw[hV];exact zk.alloc zj _
 have B4:=qh (show Bxs V w.heap.size 37 [.bool false,.slice none 0 0,.bool false,.slice none 0 0,.int .u16 0,.int .u16 0,.int .u16 0,.int .u16 0] by rw[hV];exact Bxs.new w 37 [.bool false,.slice none 0 0,.bool false,.slice none 0 0,.int .u16 0,.int .u16 0,.int .u16 0,.int .u16 0]);have E0:=qh ((hc 0 t0 ht0).below hbV);have KG:=qh hbV;have HV:=qh hV
 have HP0:(0:Int)<(xn:Int):=by have:=HP.o;omega
 clear hr hl hn hs hF hc ht0 hV hbV;go_enter Tryz.func31,Tryz.ntmps31
 go_upto_region 1 with (fail)
 rw[show w.alloc (.cells #[.bool false,.slice none 0 0,.bool false,.slice none 0 0,.int .u16 0,.int .u16 0,.int .u16 0,.int .u16 0] 37)=V from HV.o.symm];obtain⟨c0,c1,c2,c3,c4,c5,c6,c7⟩:=E0.o.eight;simp only[Nat.zero_mul,Nat.add_zero] at c0 c1 c2 c3 c4 c5 c6 c7
 go_upto_region 4 with (fail)
 obtain⟨U,hU⟩:∃ U,U=V.alloc (.cells #[.bool t0.c.t.s,.slice t0.c.t.a t0.c.t.n t0.c.t.c,.bool t0.c.l.s,.slice t0.c.l.a t0.c.l.n t0.c.l.c,.int .u16 t0.m.x,.int .u16 t0.m.y,.int .u16 t0.m.z,.int .u16 t0.m.t] 37):=⟨_,rfl⟩
 have hbU:Below V.heap.size V U:=by rw[hU];exact zk.alloc zj _
 have B5:=qh (show Bxs U V.heap.size 37 [.bool t0.c.t.s,.slice t0.c.t.a t0.c.t.n t0.c.t.c,.bool t0.c.l.s,.slice t0.c.l.a t0.c.l.n t0.c.l.c,.int .u16 t0.m.x,.int .u16 t0.m.y,.int .u16 t0.m.z,.int .u16 t0.m.t] by rw[hU];exact Bxs.new V 37 [.bool t0.c.t.s,.slice t0.c.t.a t0.c.t.n t0.c.t.c,.bool t0.c.l.s,.slice t0.c.l.a t0.c.l.n t0.c.l.c,.int .u16 t0.m.x,.int .u16 t0.m.y,.int .u16 t0.m.z,.int .u16 t0.m.t]);obtain⟨A1,hA1⟩:∃ A,A=w.heap.size:=⟨_,rfl⟩;obtain⟨A2,hA2⟩:∃ A,A=V.heap.size:=⟨_,rfl⟩;have HA1:=qh (show w.heap.size<=A1 by omega);have HA2:=qh (show w.heap.size<=A2 by rw[hA2];exact KG.o.size);have HNE:=qh (show A1≠A2 by have:=B4.o.lt;omega);have B4:=qh (B4.o.bl hbU);have KG:=qk KG hbU;rw[<- hU,<- hA2,<- hA1];rw[<- hA2] at B5;rw[<- hA1] at B4;clear hU hbU hA1 hA2 c0 c1 c2 c3 c4 c5 c6 c7 h1 HP0;go_wp2_with fail
 go_loopw [6] (fun i wr=>∃ (j:Nat) (t:TV),1<=j/\j<=xn/\i=.int .i64 j/\t∈ts/\(∀ i u,ts[i]?=some u->i<j->K u.m<=K t.m)/\Bxs wr A2 37 [.bool t.c.t.s,.slice t.c.t.a t.c.t.n t.c.t.c,.bool t.c.l.s,.slice t.c.l.a t.c.l.n t.c.l.c,.int .u16 t.m.x,.int .u16 t.m.y,.int .u16 t.m.z,.int .u16 t.m.t]/\Bxs wr A1 37 [.bool false,.slice none 0 0,.bool false,.slice none 0 0,.int .u16 0,.int .u16 0,.int .u16 0,.int .u16 0]/\Below w.heap.size w wr) (fun i _=>xn-(intOf i).toNat)
 case atStart =>
  refine⟨1,t0,zj,HP.o,rfl,List.mem_of_getElem? HT0.o,fun i u h1 h2=>?_,B5.o,B4.o,KG.o⟩
  obtain rfl:i=0:=by omega
  rw[HT0.o] at h1;obtain rfl:=Option.some.inj h1;exact Int.le_refl _
 case round =>
  obtain⟨j,t,hj1,hj,rfl,hmem,hmax,hB5,hB4,hb0⟩:=hrel;have HJ1:=qh hj1;have HJ:=qh hj;have HME:=qh hmem;have HMX:=qh hmax;have B5:=qh hB5;have B4:=qh hB4;have KG:=qh hb0;clear hj1 hj hmem hmax hB5 hB4 hb0;by_cases hjn:j<xn
  ·have HJN:=qh hjn;obtain⟨u,hu⟩:∃ u,ts[j]?=some u:=⟨_,List.getElem?_eq_getElem (by rw[HL.o];exact hjn)⟩;have HU:=qh hu;have E1:=qh ((HE.o j u hu).below KG.o);have HST:=qh (HS.o t HME.o);have HSU:=qh (HS.o u (List.mem_of_getElem? hu));obtain⟨cv,hcv⟩:∃ c,c=Mono.cmpZ (K u.m) (K t.m):=⟨_,rfl⟩;have HCV:=qh hcv;have ek:IntKind.i64.wrap ((j:Int)+1)=(j:Int)+1:=IntWalk.i64_in _ (by have:=HJN.o;have:=HN.o;omega);clear hu hcv
   go_upto_region 7 with (fail)
   refine FS.wp_region_fresh 7 [] (FS.spOf [(6,FS.Sp.know (.int .i64 cv))])
    (fun w'=>Below wr.heap.size wr w') (by kernel_rfl) (by kernel_rfl) (by kernel_rfl)
    (FS.spOf_cons (FS.Sp.know_keeps _ _) (FS.spOf_nil)) (fun _ _ h hb=>h.trans (hb.mono h.size)) (zk.drew) ?_
   simp only[zu,zi,ze,zx,zy,zv,zw]
   iterate 6
    refine FS.wpF_reads rfl rfl rfl ?_ (fun w' hw'=>?_) ?_;rotate_left
    ·have hb':=hw'.world;obtain⟨hs0,hs1,hs2,hs3,hs4,hs5,hs6,hs7⟩:=(E1.o.below hb').eight;have hs0:=(B5.o.bl hb').ce 0;have hs1:=(B5.o.bl hb').ce 1;have hs2:=(B5.o.bl hb').ce 2;have hs3:=(B5.o.bl hb').ce 3;have hs4:=(B5.o.bl hb').ce 4;have hs5:=(B5.o.bl hb').ce 5;have hs6:=(B5.o.bl hb').ce 6;have hs7:=(B5.o.bl hb').ce 7;have hsf:=(B5.o.bl hb').fz;have hsl:=(B5.o.bl hb').lt;clear hw';go_simp
     try rfl
    conv=>arg 10;simp only[Act.put,zq0,zq1,zq2]
   refine FS.wpF_spec rfl rfl rfl (fun w' hw'=>?_) ?_
   ·have hb':=hw'.world;refine FS.gives_of (FS.PK (.int .i64 cv)) ?_ (fun _ _ h=>h.post);go_simp;have CT:=HF.o u t HSU.o HST.o w' (KG.o.trans (hb'.mono KG.o.size));rw[show Mono.cmpZ (K u.m) (K t.m)=cv from HCV.o.symm] at CT;refine CT.mono ?_;rintro e w'' ⟨rfl,hb⟩;exact⟨_,rfl,rfl,hb⟩
   rintro _ rfl
   conv=>arg 10;simp only[Act.put,zq0,zq1,zq2]
   refine FS.wpF_nil (fun w101 hb hF=>?_);clear hF;have B5:=qh (B5.o.bl hb);have B4:=qh (B4.o.bl hb);have KG:=qk KG hb;clear hb;by_cases hcp:cv>0
   ·have hcq:0<cv:=hcp;have HCP:=qh hcp;have E1:=qh ((HE.o j u HU.o).below KG.o);obtain⟨c0,c1,c2,c3,c4,c5,c6,c7⟩:=E1.o.eight;have cf:=B5.o.fz;have cl:=B5.o.lt;have c50:=B5.o.ce 0;have c51:=B5.o.ce 1;have c52:=B5.o.ce 2;have c53:=B5.o.ce 3;have c54:=B5.o.ce 4;have c55:=B5.o.ce 5;have c56:=B5.o.ce 6;have c57:=B5.o.ce 7;go_wp2_with fail
    go_roundw
    case rel =>
     refine⟨j+1,u,by omega,by have:=HJN.o;omega,rfl,List.mem_of_getElem? HU.o,fun i v h1 h2=>?_,put8_bxs B5.o ..,?_,put8_below KG.o HA2.o ..⟩
     ·have h3:K t.m<K u.m:=cmpZ_dec.1 (by rw[<- HCV.o];exact HCP.o);by_cases h4:i<j
      ·have:=HMX.o i v h1 h4;omega
      ·obtain rfl:i=j:=by omega
       rw[HU.o] at h1;obtain rfl:=Option.some.inj h1;exact Int.le_refl _
     ·exact((((((((B4.o.other HNE.o _).other HNE.o _).other HNE.o _).other HNE.o _).other HNE.o _).other HNE.o _).other HNE.o _).other HNE.o _)
    case measure=>simp[intOf];have:=HJN.o;omega
   ·have hcq:¬(0<cv):=hcp;have HCP:=qh hcp;go_wp2_with fail
    go_roundw
    case rel =>
     refine⟨j+1,t,by omega,by have:=HJN.o;omega,rfl,HME.o,fun i v h1 h2=>?_,B5.o,B4.o,KG.o⟩;by_cases h4:i<j
     ·exact HMX.o i v h1 h4
     ·obtain rfl:i=j:=by omega
      rw[HU.o] at h1;obtain rfl:=Option.some.inj h1
      have h3:¬(K t.m<K u.m):=fun h=>HCP.o (by rw[HCV.o];exact cmpZ_dec.2 h)
      omega
    case measure=>simp[intOf];have:=HJN.o;omega
  ·have hge:¬((j:Int)<(xn:Int)):=by omega
   have HJE:=qh (show j=xn by have:=HJ.o;omega);clear hjn;have c0:=B5.o.ce 0;have c1:=B5.o.ce 1;have c2:=B5.o.ce 2;have c3:=B5.o.ce 3;have c4:=B5.o.ce 4;have c5:=B5.o.ce 5;have c6:=B5.o.ce 6;have c7:=B5.o.ce 7;have cf:=B4.o.fz;have cl:=B4.o.lt;have c40:=B4.o.ce 0;have c41:=B4.o.ce 1;have c42:=B4.o.ce 2;have c43:=B4.o.ce 3;have c44:=B4.o.ce 4;have c45:=B4.o.ce 5;have c46:=B4.o.ce 6;have c47:=B4.o.ce 7;go_wp2_with fail
   refine bodyPost_ret (results_cell rfl _ _ _ _ _ _ _ rfl (put8_bxs B4.o ..) Tryz.underlying37 rfl (by kernel_rfl)) rfl ⟨t,HME.o,fun u hu=>?_,rfl,put8_below KG.o HA1.o ..⟩;obtain⟨i,h⟩:=List.mem_iff_getElem?.1 hu;exact HMX.o i u h (by have h8:=(List.getElem?_eq_some_iff.1 h).1;have h5:=HL.o;have h9:=HJE.o;omega)
theorem lead1_any (o:Int) (t u:TV) (w:World) (bo:Nat) (hb:Bxs w bo 24 [.int .u8 o]) (ht:t.m.Small) (hu:u.m.Small) :
  Calls Tryz.prog 32 #[TV.v t,TV.v u,.pointer (some ⟨bo,0,none⟩)] w fun e w'=>e=.returned (.int .i64 (Mono.cmpZ (keyO o t.m) (keyO o u.m)))/\Below w.heap.size w w':=by
 obtain⟨V,hV⟩:∃ V,V=(w.alloc (.cells #[.bool t.c.t.s,.slice t.c.t.a t.c.t.n t.c.t.c,.bool t.c.l.s,.slice t.c.l.a t.c.l.n t.c.l.c,.int .u16 t.m.x,.int .u16 t.m.y,.int .u16 t.m.z,.int .u16 t.m.t] 37)).alloc (.cells #[.bool u.c.t.s,.slice u.c.t.a u.c.t.n u.c.t.c,.bool u.c.l.s,.slice u.c.l.a u.c.l.n u.c.l.c,.int .u16 u.m.x,.int .u16 u.m.y,.int .u16 u.m.z,.int .u16 u.m.t] 37):=⟨_,rfl⟩
 have hbV:Below w.heap.size w V:=by rw[hV];exact(zk.alloc zj _).alloc (by go_size) _
 have B1:=qh (show Bxs V w.heap.size 37 [.bool t.c.t.s,.slice t.c.t.a t.c.t.n t.c.t.c,.bool t.c.l.s,.slice t.c.l.a t.c.l.n t.c.l.c,.int .u16 t.m.x,.int .u16 t.m.y,.int .u16 t.m.z,.int .u16 t.m.t] by rw[hV];exact(Bxs.new w 37 [.bool t.c.t.s,.slice t.c.t.a t.c.t.n t.c.t.c,.bool t.c.l.s,.slice t.c.l.a t.c.l.n t.c.l.c,.int .u16 t.m.x,.int .u16 t.m.y,.int .u16 t.m.z,.int .u16 t.m.t]).alloc _)
 have B2:=qh (show Bxs V (w.heap.size+1) 37 [.bool u.c.t.s,.slice u.c.t.a u.c.t.n u.c.t.c,.bool u.c.l.s,.slice u.c.l.a u.c.l.n u.c.l.c,.int .u16 u.m.x,.int .u16 u.m.y,.int .u16 u.m.z,.int .u16 u.m.t] by
  have h:=Bxs.new (w.alloc (.cells #[.bool t.c.t.s,.slice t.c.t.a t.c.t.n t.c.t.c,.bool t.c.l.s,.slice t.c.l.a t.c.l.n t.c.l.c,.int .u16 t.m.x,.int .u16 t.m.y,.int .u16 t.m.z,.int .u16 t.m.t] 37)) 37 [.bool u.c.t.s,.slice u.c.t.a u.c.t.n u.c.t.c,.bool u.c.l.s,.slice u.c.l.a u.c.l.n u.c.l.c,.int .u16 u.m.x,.int .u16 u.m.y,.int .u16 u.m.z,.int .u16 u.m.t];rw[World.size_alloc] at h
  rw[hV];exact h)
 have BO:=qh (hb.below hbV hb.lt);have KG:=qh hbV;have HV:=qh hV;have CM:=qh (show Calls Tryz.prog 33 #[.int .u8 o,Mo.v t.m,Mo.v u.m] V _ from Mono.cmp_any o (moF t.m) (moF u.m) V (moF_small ht) (moF_small hu));have HK:=qh (Mono.cmp_key (o:=o) (moF_small ht) (moF_small hu));clear hV hbV hb ht hu;change Calls Tryz.prog 32 #[.agg #[.bool t.c.t.s,.slice t.c.t.a t.c.t.n t.c.t.c,.bool t.c.l.s,.slice t.c.l.a t.c.l.n t.c.l.c,.int .u16 t.m.x,.int .u16 t.m.y,.int .u16 t.m.z,.int .u16 t.m.t],.agg #[.bool u.c.t.s,.slice u.c.t.a u.c.t.n u.c.t.c,.bool u.c.l.s,.slice u.c.l.a u.c.l.n u.c.l.c,.int .u16 u.m.x,.int .u16 u.m.y,.int .u16 u.m.z,.int .u16 u.m.t],.pointer (some ⟨bo,0,none⟩)] w _;go_enter Tryz.func32,Tryz.ntmps32
 go_upto_region 1 with (fail)
 rw[show(w.alloc (.cells #[.bool t.c.t.s,.slice t.c.t.a t.c.t.n t.c.t.c,.bool t.c.l.s,.slice t.c.l.a t.c.l.n t.c.l.c,.int .u16 t.m.x,.int .u16 t.m.y,.int .u16 t.m.z,.int .u16 t.m.t] 37)).alloc (.cells #[.bool u.c.t.s,.slice u.c.t.a u.c.t.n u.c.t.c,.bool u.c.l.s,.slice u.c.l.a u.c.l.n u.c.l.c,.int .u16 u.m.x,.int .u16 u.m.y,.int .u16 u.m.z,.int .u16 u.m.t] 37)=V from HV.o.symm];have c10:=B1.o.ce 0;have c11:=B1.o.ce 1;have c12:=B1.o.ce 2;have c13:=B1.o.ce 3;have c14:=B1.o.ce 4;have c15:=B1.o.ce 5;have c16:=B1.o.ce 6;have c17:=B1.o.ce 7;have c20:=B2.o.ce 0;have c21:=B2.o.ce 1;have c22:=B2.o.ce 2;have c23:=B2.o.ce 3;have c24:=B2.o.ce 4;have c25:=B2.o.ce 5;have c26:=B2.o.ce 6;have c27:=B2.o.ce 7;have co:=BO.o.ce 0;go_wp2_with fail
 with_reducible refine CM.o.mono ?_
 rintro e w1 ⟨rfl,hb⟩;have KG:=qk KG hb;clear hb CM c10 c11 c12 c13 c14 c15 c16 c17 c20 c21 c22 c23 c24 c25 c26 c27 co;go_wp2_with fail
 go_ret;refine⟨?_,KG.o⟩;rw[HK.o];rfl
theorem lead_k (o:Int) (x:PV) (P:List Tm) (w:World) (hx:AP w x P) (hp:∀ t∈P,LQ t.2 900000) (hn:x.n<=1000000) (hne:P≠[]) :
  Calls Tryz.prog 8 #[.int .u8 o,x.v] w fun e w'=>∃ (y:FV) (t:Tm),e=.returned (.tuple #[TV.v ⟨y,t.1⟩,.bool true])/\DF w' w.heap.size y t.2/\Lead (keyO o) P t/\Below w.heap.size w w':=by
 obtain⟨V0,hV⟩:∃ V,V=(w.alloc (.cells #[.int .u8 o] 24)).alloc (.cells #[.bool false,.slice none 0 0,.bool false,.slice none 0 0,.int .u16 0,.int .u16 0,.int .u16 0,.int .u16 0] 37):=⟨_,rfl⟩
 have hbV:Below w.heap.size w V0:=by rw[hV];exact(zk.alloc zj _).alloc (by go_size) _
 have BO:=qh (show Bxs V0 w.heap.size 24 [.int .u8 o] by rw[hV];exact(Bxs.new w 24 [.int .u8 o]).alloc _)
 have B4:=qh (show Bxs V0 (w.heap.size+1) 37 [.bool false,.slice none 0 0,.bool false,.slice none 0 0,.int .u16 0,.int .u16 0,.int .u16 0,.int .u16 0] by
  have h:=Bxs.new (w.alloc (.cells #[.int .u8 o] 24)) 37 [.bool false,.slice none 0 0,.bool false,.slice none 0 0,.int .u16 0,.int .u16 0,.int .u16 0,.int .u16 0];rw[World.size_alloc] at h
  rw[hV];exact h)
 have OF:=qh (of_at hx hbV hp (by omega));have HP:=qh hp;have HN:=qh hn;have HNE:=qh hne;have KG:=qh hbV;have HV:=qh hV;obtain⟨A4,hA4⟩:∃ A,A=w.heap.size+1:=⟨_,rfl⟩;have HA4:=qh (show w.heap.size<=A4 by omega);rw[<- hA4] at B4;have HA5:=qh hA4;obtain⟨xa,xn,xc⟩:=x;change Calls Tryz.prog 8 #[.int .u8 o,.slice xa xn xc] w _;clear hV hbV hx hp hn hne hA4;go_enter Tryz.func8,Tryz.ntmps8
 go_upto_region 1 with (fail)
 rw[show(w.alloc (.cells #[.int .u8 o] 24)).alloc (.cells #[.bool false,.slice none 0 0,.bool false,.slice none 0 0,.int .u16 0,.int .u16 0,.int .u16 0,.int .u16 0] 37)=V0 from HV.o.symm,show w.heap.size+1=A4 from HA5.o.symm];go_wp2_with fail
 with_reducible refine OF.o.mono ?_
 rintro e w1 ⟨⟨pa,pn,pc⟩,he,hkp,hpn,hb⟩;obtain rfl:e=.returned (.slice pa pn pc):=he;have BO:=qh (BO.o.bl hb);have B4:=qh (B4.o.bl hb);have KG:=qk KG hb;have HX:=qh hkp;obtain⟨L,g1,g2,g3,g4⟩:=hkp.ex;have g2:L.length=pn:=g2
 have hlne:L≠[]:=fun h=>HNE.o (by rw[<- g4,h];rfl)
 have hne2:L.map Prod.fst≠[]:=fun h=>hlne (List.map_eq_nil_iff.1 h)
 have h0:¬((pn:Int)=0):=by have:=List.length_pos_iff.2 hlne;omega
 have T1:=qh g4;have F1:=qh g3
 have hcf:∀ (args:Array Value) (w:World),(callFunc 32 args).run Tryz.prog w=.ok (.enter 32 args) w:=fun _ _=>by kernel_rfl
 have MX:=qh (max_any 32 #[.pointer (some ⟨w.heap.size,0,none⟩)] ⟨pa,pn,pc⟩ (L.map Prod.fst) (keyO o) w1 (g1.below KG.o) (by rw[List.length_map];exact g2) (zm hpn HN.o) hne2
  (fun t ht=>by
   obtain⟨e,he,rfl⟩:=List.mem_map.1 ht
   exact HX.o.small (tm e) (by rw[<- g4];exact List.mem_map_of_mem he))
  hcf (fun t u ht hu w2 hb2=>lead1_any o t u w2 w.heap.size (BO.o.bl hb2) ht hu))
 clear hkp hpn hb g1 g2 g3 g4 OF hlne hne2 hcf;go_wp2_with fail
 with_reducible refine MX.o.mono ?_
 rintro e w2 ⟨t,htm,htx,rfl,hb⟩;have B4:=qh (B4.o.bl hb);have KG:=qk KG hb;obtain⟨⟨t',q⟩,he,e1⟩:=List.mem_map.1 htm;obtain rfl:t'=t:=e1
 have hmem:(t'.m,q)∈P:=by rw[<- T1.o];exact List.mem_map_of_mem he
 have HLD:=qh (show Lead (keyO o) P (t'.m,q) from⟨hmem,fun s hs=>by
  rw[<- T1.o] at hs;obtain⟨e,he,rfl⟩:=List.mem_map.1 hs
  exact htx e.1 (List.mem_map_of_mem he)⟩)
 have LQq:=qh (HP.o _ hmem);have NT0:=qh (F1.o _ he);obtain⟨t,ht⟩:∃ t,t=t':=⟨_,rfl⟩;rw[<- ht] at HLD NT0 ⊢;clear htm htx hb he hmem MX ht h0;have c40:=B4.o.ce 0;have c41:=B4.o.ce 1;have c42:=B4.o.ce 2;have c43:=B4.o.ce 3;have c44:=B4.o.ce 4;have c45:=B4.o.ce 5;have c46:=B4.o.ce 6;have c47:=B4.o.ce 7;have c4f:=B4.o.fz;have c4l:=B4.o.lt
 go_upto_region 5 with (fail)
 clear c40 c41 c42 c43 c44 c45 c46 c47 c4f c4l;obtain⟨V,hV⟩:∃ V,V=put8 w2 A4 (.bool t.c.t.s) (.slice t.c.t.a t.c.t.n t.c.t.c) (.bool t.c.l.s) (.slice t.c.l.a t.c.l.n t.c.l.c) (.int .u16 t.m.x) (.int .u16 t.m.y) (.int .u16 t.m.z) (.int .u16 t.m.t):=⟨_,rfl⟩;have B4:=qh (show Bxs V A4 37 [.bool t.c.t.s,.slice t.c.t.a t.c.t.n t.c.t.c,.bool t.c.l.s,.slice t.c.l.a t.c.l.n t.c.l.c,.int .u16 t.m.x,.int .u16 t.m.y,.int .u16 t.m.z,.int .u16 t.m.t] by rw[hV];exact put8_bxs B4.o ..);have KG:=qh (show Below w.heap.size w V by rw[hV];exact put8_below KG.o HA4.o ..);unfold put8 at hV;rw[<- hV];have NT:=qh (show KF V t.c q from NT0.o.below KG.o);have HSZ:=qh (show w.heap.size<=V.heap.size from KG.o.size);clear hV NT0;obtain⟨q101,hq101⟩:∃ z:Rat,z=((1:Int):Rat):=⟨_,rfl⟩;have Hq101:=qh hq101;have LQq101:=qh (show LQ q101 3 by rw[hq101];exact LQ.int (by decide) (by decide));clear hq101;obtain⟨q102,hq102⟩:∃ z:Rat,z=q*q101:=⟨_,rfl⟩;have Hq102:=qh hq102;have LQq102:=qh (show LQ q102 1800000 by rw[hq102];exact LQ.mul (LQq.o.up (by decide:_<=900000)) (LQq101.o.up (by decide:_<=900000)) (by decide));clear hq102
 go_upto_region 5 with (fail)
 refine FS.wp_region_fresh 7 [] (FS.spOf [(2,FS.Sp.made (fun x:FV=>x.v) (fun x w'=>DF w' V.heap.size x q101) FV.blk),(3,FS.Sp.made (fun x:FV=>x.v) (fun x w'=>DF w' V.heap.size x q102) FV.blk)])
  (fun w'=>Below V.heap.size V w') (by kernel_rfl) (by kernel_rfl) (by kernel_rfl)
  (FS.spOf_cons (FS.Sp.made_keeps _ (fun _ _ _ h _ hk=>h.kept hk) (FS.notTaken (by kernel_rfl))) (FS.spOf_cons (FS.Sp.made_keeps _ (fun _ _ _ h _ hk=>h.kept hk) (FS.notTaken (by kernel_rfl))) (FS.spOf_nil))) (fun _ _ h hb=>h.trans (hb.mono h.size)) (zk.drew) ?_
 simp only[zu,zi,ze,zx,zy,zv,zw]
 iterate 2
  refine FS.wpF_reads rfl rfl rfl ?_ (fun w' hw'=>?_) ?_;rotate_left
  ·have hb':=hw'.world;have hs0:=(B4.o.bl hb').ce 0;have hs1:=(B4.o.bl hb').ce 1;have hs2:=(B4.o.bl hb').ce 2;have hs3:=(B4.o.bl hb').ce 3;have hs4:=(B4.o.bl hb').ce 4;have hs5:=(B4.o.bl hb').ce 5;have hs6:=(B4.o.bl hb').ce 6;have hs7:=(B4.o.bl hb').ce 7;have hsf:=(B4.o.bl hb').fz;have hsl:=(B4.o.bl hb').lt;clear hw';go_simp
   try rfl
  conv=>arg 10;simp only[Act.put,zq0,zq1,zq2]
 refine FS.wpF_spec rfl rfl rfl (fun w' hw'=>?_) ?_
 ·have hb':=hw'.world;refine FS.gives_of (FS.PM (fun x:FV=>x.v) (fun x w'=>DF w' V.heap.size x q101) FV.blk w'.heap.size) ?_ (fun _ _ h=>h.post (fun _ _=>FV.inj));go_simp;have CT:=qof 1 w' (by decide) (by decide);rw[show((1:Int):Rat)=q101 from Hq101.o.symm] at CT;refine CT.mono ?_;rintro e w'' ⟨za,rfl,ho,hb⟩;exact⟨_,rfl,⟨za,rfl,ho.mono hb'.size,ho.blks⟩,hb⟩
 rintro _ ⟨y2,rfl⟩
 conv=>arg 10;simp only[Act.put,zq0,zq1,zq2]
 refine FS.wpF_spec rfl rfl rfl (fun w' hw'=>?_) ?_
 ·have hb':=hw'.world;refine FS.gives_of (FS.PM (fun x:FV=>x.v) (fun x w'=>DF w' V.heap.size x q102) FV.blk w'.heap.size) ?_ (fun _ _ h=>h.post (fun _ _=>FV.inj));go_simp;have f2:=FS.made_of (val:=(fun x:FV=>x.v)) (Φ:=fun x w'=>DF w' V.heap.size x q101) (fun _ _=>FV.inj) (hw'.fact 2 (by kernel_rfl));have CT:=qmul ((NT.o.below hb')).any (((NT.o.below hb')).len LQq.o (by decide:_<=900000)) (f2).k.any (((f2).k).len LQq101.o (by decide:_<=900000));rw[show q*q101=q102 from Hq102.o.symm] at CT;refine CT.mono ?_;rintro e w'' ⟨za,rfl,ho,hb⟩;exact⟨_,rfl,⟨za,rfl,ho.mono hb'.size,ho.blks⟩,hb⟩
 rintro _ ⟨y3,rfl⟩
 conv=>arg 10;simp only[Act.put,zq0,zq1,zq2]
 iterate 3
  refine FS.wpF_reads rfl rfl rfl ?_ (fun w' hw'=>?_) ?_;rotate_left
  ·have hb':=hw'.world;have hs0:=(B4.o.bl hb').ce 0;have hs1:=(B4.o.bl hb').ce 1;have hs2:=(B4.o.bl hb').ce 2;have hs3:=(B4.o.bl hb').ce 3;have hs4:=(B4.o.bl hb').ce 4;have hs5:=(B4.o.bl hb').ce 5;have hs6:=(B4.o.bl hb').ce 6;have hs7:=(B4.o.bl hb').ce 7;have hsf:=(B4.o.bl hb').fz;have hsl:=(B4.o.bl hb').lt;clear hw';go_simp
   try rfl
  conv=>arg 10;simp only[Act.put,zq0,zq1,zq2]
 refine FS.wpF_nil (fun w103 hb hF=>?_);have N104:=qh (show DF w103 V.heap.size y3 q102 from(FS.made_of (val:=(fun x:FV=>x.v)) (Φ:=fun x w'=>DF w' V.heap.size x q102) (fun _ _=>FV.inj) (hF.all 3)));clear hF;have NT:=qh (NT.o.below hb);have B4:=qh (B4.o.bl hb);have KG:=qk KG hb;clear hb;have HQ:=qh (show q102=q by rw[Hq102.o,Hq101.o];grind);have HD:=qh (show DF (put8 w103 A4 (.bool y3.t.s) (.slice y3.t.a y3.t.n y3.t.c) (.bool y3.l.s) (.slice y3.l.a y3.l.n y3.l.c) (.int .u16 t.m.x) (.int .u16 t.m.y) (.int .u16 t.m.z) (.int .u16 t.m.t)) w.heap.size y3 q from by rw[<- HQ.o];exact put8_df (N104.o.mono HSZ.o) B4.o (by decide) ..);have HB:=qh (show Below w.heap.size w (put8 w103 A4 (.bool y3.t.s) (.slice y3.t.a y3.t.n y3.t.c) (.bool y3.l.s) (.slice y3.l.a y3.l.n y3.l.c) (.int .u16 t.m.x) (.int .u16 t.m.y) (.int .u16 t.m.z) (.int .u16 t.m.t)) from put8_below KG.o HA4.o ..);have c40:=B4.o.ce 0;have c41:=B4.o.ce 1;have c42:=B4.o.ce 2;have c43:=B4.o.ce 3;have c44:=B4.o.ce 4;have c45:=B4.o.ce 5;have c46:=B4.o.ce 6;have c47:=B4.o.ce 7;have c4f:=B4.o.fz;have c4l:=B4.o.lt;go_wp2_with fail
 exact bodyPost_ret (results_ct rfl _ _ _ _ _ _ _ rfl (put8_bxs B4.o ..) Tryz.underlying37 rfl (by kernel_rfl)) rfl ⟨y3,(t.m,q),rfl,HD.o,HLD.o,HB.o⟩
theorem lead_nil (o:Int) (x:PV) (w:World) (hx:AP w x []) (hn:x.n<=1000000) :
  Calls Tryz.prog 8 #[.int .u8 o,x.v] w fun e w'=>e=.returned (.tuple #[.agg #[.bool false,.slice none 0 0,.bool false,.slice none 0 0,.int .u16 0,.int .u16 0,.int .u16 0,.int .u16 0],.bool false])/\Below w.heap.size w w':=by
 obtain⟨V0,hV⟩:∃ V,V=(w.alloc (.cells #[.int .u8 o] 24)).alloc (.cells #[.bool false,.slice none 0 0,.bool false,.slice none 0 0,.int .u16 0,.int .u16 0,.int .u16 0,.int .u16 0] 37):=⟨_,rfl⟩
 have hbV:Below w.heap.size w V0:=by rw[hV];exact(zk.alloc zj _).alloc (by go_size) _
 have B4:=qh (show Bxs V0 (w.heap.size+1) 37 [.bool false,.slice none 0 0,.bool false,.slice none 0 0,.int .u16 0,.int .u16 0,.int .u16 0,.int .u16 0] by
  have h:=Bxs.new (w.alloc (.cells #[.int .u8 o] 24)) 37 [.bool false,.slice none 0 0,.bool false,.slice none 0 0,.int .u16 0,.int .u16 0,.int .u16 0,.int .u16 0];rw[World.size_alloc] at h
  rw[hV];exact h)
 have OF:=qh (of_at hx hbV (fun t ht=>by cases ht) (by omega));have KG:=qh hbV;have HV:=qh hV;obtain⟨A4,hA4⟩:∃ A,A=w.heap.size+1:=⟨_,rfl⟩;have HA4:=qh (show w.heap.size<=A4 by omega);rw[<- hA4] at B4;have HA5:=qh hA4;obtain⟨xa,xn,xc⟩:=x;change Calls Tryz.prog 8 #[.int .u8 o,.slice xa xn xc] w _;clear hV hbV hx hn hA4;go_enter Tryz.func8,Tryz.ntmps8
 go_upto_region 1 with (fail)
 rw[show(w.alloc (.cells #[.int .u8 o] 24)).alloc (.cells #[.bool false,.slice none 0 0,.bool false,.slice none 0 0,.int .u16 0,.int .u16 0,.int .u16 0,.int .u16 0] 37)=V0 from HV.o.symm,show w.heap.size+1=A4 from HA5.o.symm];go_wp2_with fail
 with_reducible refine OF.o.mono ?_
 rintro e w1 ⟨⟨pa,pn,pc⟩,he,hkp,hpn,hb⟩;obtain rfl:e=.returned (.slice pa pn pc):=he;have B4:=qh (B4.o.bl hb);have KG:=qk KG hb;have h0:=hkp.len;obtain rfl:pn=0:=h0;clear hkp hpn hb OF;have c40:=B4.o.ce 0;have c41:=B4.o.ce 1;have c42:=B4.o.ce 2;have c43:=B4.o.ce 3;have c44:=B4.o.ce 4;have c45:=B4.o.ce 5;have c46:=B4.o.ce 6;have c47:=B4.o.ce 7;have c4f:=B4.o.fz;have c4l:=B4.o.lt;go_wp2_with fail
 exact bodyPost_ret (results_ct rfl _ _ _ _ _ _ _ rfl (put8_bxs B4.o ..) Tryz.underlying37 rfl (by kernel_rfl)) rfl ⟨rfl,put8_below KG.o HA4.o ..⟩
def put4 (w:World) (b:Nat) (v0 v1 v2 v3:Value):World:=(((w.setCell ⟨b,0,none⟩ v0).setCell ⟨b,1,none⟩ v1).setCell ⟨b,2,none⟩ v2).setCell ⟨b,3,none⟩ v3
theorem put4_bxs {w:World} {b:Nat} {t:TypeId} {u0 u1 u2 u3:Value} (h:Bxs w b t [u0,u1,u2,u3]) (v0 v1 v2 v3:Value):Bxs (put4 w b v0 v1 v2 v3) b t [v0,v1,v2,v3]:=(((h.put 0 v0).put 1 v1).put 2 v2).put 3 v3
theorem put4_below {B:Nat} {u w:World} {b:Nat} (h:Below B u w) (hb:B<=b) (v0 v1 v2 v3:Value):Below B u (put4 w b v0 v1 v2 v3):=(((h.setCell hb v0).setCell hb v1).setCell hb v2).setCell hb v3
structure EF (w:World) (lo:Nat) (x:FV) (q:Rat):Prop where
 t:DN w lo x.t q.num
 l:DN w lo x.l (q.den:Int)
theorem EF.below {w w':World} {lo:Nat} {x:FV} {q:Rat} (h:EF w lo x q) (hb:Below w.heap.size w w'):EF w' lo x q:=⟨h.t.below hb,h.l.below hb⟩
theorem EF.mono {w:World} {lo lo':Nat} {x:FV} {q:Rat} (h:EF w lo x q) (hl:lo'<=lo):EF w lo' x q:=⟨h.t.mono hl,h.l.mono hl⟩
theorem EF.k {w:World} {lo:Nat} {x:FV} {q:Rat} (h:EF w lo x q):KF w x q:=⟨h.t.k,h.l.k⟩
theorem EF.kept {w w':World} {lo:Nat} {x:FV} {q:Rat} (h:EF w lo x q) (hk:∀ b,FV.blk x b->w'.heap[b]?=w.heap[b]?):EF w' lo x q:=⟨h.t.kept fun b hb=>hk b (Or.inl hb),h.l.kept fun b hb=>hk b (Or.inr hb)⟩
theorem EF.blks {w:World} {lo:Nat} {x:FV} {q:Rat} (h:EF w lo x q):∀ b,FV.blk x b->lo<=b/\b<w.heap.size:=fun b hb=>hb.elim (h.t.blks b) (h.l.blks b)
theorem EF.setBxs {w:World} {lo:Nat} {x:FV} {q:Rat} (h:EF w lo x q) {g:Nat} {t:TypeId} {l:List Value} (hb:Bxs w g t l) (ht:128≠t) (i:Nat) (v:Value):EF (w.setCell ⟨g,i,none⟩ v) lo x q:=⟨h.t.setBxs hb ht i v,h.l.setBxs hb ht i v⟩
def RKV (w:World) (q:Rat) (e:Ending) (w':World):Prop:=∃ y:FV,e=.returned y.v/\EF w' w.heap.size y q/\Below w.heap.size w w'
theorem FracF.rkv {w w':World} {q:Rat} {e:Ending} (h:FracF w q.num (q.den:Int) e w'):RKV w q e w':=by
 obtain⟨a1,c1,a2,c2,rfl,o1,o2,hb⟩:=h;exact⟨⟨⟨_,a1,_,c1⟩,⟨_,a2,_,c2⟩⟩,rfl,⟨⟨rfl,rfl,o1⟩,⟨rfl,rfl,o2⟩⟩,hb⟩
theorem rnegV {w:World} {x:FV} {p:Rat} (h1:AF w x p) (b1:LF x 900000):Calls Tryz.prog 108 #[x.v] w (RKV w (-p)):=by
 obtain⟨o1,o2,r1,r2,e1⟩:=h1.ex
 exact(rfneg_any x.t.s x.t.a x.t.n x.t.c o1 x.l.s x.l.a x.l.n x.l.c o2 w p e1.symm r1 (by omega) h1.l1 r2 (by omega) h1.l2).mono fun _ _ h=>FracF.rkv h
theorem rsignV {w:World} {x:FV} {p:Rat} (h1:AF w x p) (b1:LF x 900000):Calls Tryz.prog 150 #[x.v] w fun e w'=>e=.returned (.int .i64 (cmpZ p.num 0))/\Below w.heap.size w w':=by
 obtain⟨o1,o2,r1,r2,e1⟩:=h1.ex;exact rfsign_any x.t.s x.t.a x.t.n x.t.c o1 x.l.s x.l.a x.l.n x.l.c o2 w p e1.symm r1 (by omega) h1.l1 r2 (by omega) h1.l2
open Classical in
theorem rcheckV {w:World} {x:FV} {p:Rat} (h1:KF w x p) (b1:LF x 900000):Calls Tryz.prog 149 #[x.v] w fun e w'=>e=.returned (.bool true)/\Below w.heap.size w w':=by
 have h:=rfcheck_any x.t.s x.t.a x.t.n x.t.c _ x.l.s x.l.a x.l.n x.l.c _ w h1.t.rd (by omega) h1.t.le h1.l.rd (by omega) h1.l.le;rw[decide_eq_true (by rw[h1.t.s,h1.t.n,h1.l.s,h1.l.n];exact okF_canon p)] at h;exact h
open Classical in
theorem rcheckVB {w:World} {x:FV} (h1:BF w x) (b1:LF x 900000):Calls Tryz.prog 149 #[x.v] w fun e w'=>e=.returned (.bool false)/\Below w.heap.size w w':=by
 obtain⟨o1,o2,r1,r2,hk⟩:=h1.ex;have h:=rfcheck_any x.t.s x.t.a x.t.n x.t.c o1 x.l.s x.l.a x.l.n x.l.c o2 w r1 (by omega) h1.l1 r2 (by omega) h1.l2;rw[zo hk] at h;exact h
theorem rcmpV (o:Int) (a b:Mo) (w:World) (ha:a.Small) (hb:b.Small):Calls Tryz.prog 37 #[.int .u8 o,Mo.v a,Mo.v b] w fun e w'=>e=.returned (.int .i64 (Mono.cmpZ (keyO o a) (keyO o b)))/\Below w.heap.size w w':=by
 have h:=Mono.rcmp_any o (moF a) (moF b) w (moF_small ha) (moF_small hb);rw[Mono.cmp_key (o:=o) (moF_small ha) (moF_small hb)] at h;exact h
theorem lt_key0 {a b:Mo} (ha:a.Small) (hb:b.Small):a.lt b↔keyO 0 a<keyO 0 b:=by
 have hk:∀ m:Mo,keyO 0 m=(m.x:Int)*281474976710656+(m.y:Int)*4294967296+(m.z:Int)*65536+(m.t:Int):=fun m=>by
  unfold keyO Mono.KO;rw[if_neg (by decide),if_neg (by decide)];rfl
 obtain⟨a1,a2,a3,a4⟩:=ha;obtain⟨b1,b2,b3,b4⟩:=hb;rw[hk,hk];unfold Mo.lt;omega
structure K4 (w:World) (x0 x1 x2 x3:FV) (l:Nat->Rat):Prop where
 k0:KF w x0 (l 0)
 k1:KF w x1 (l 1)
 k2:KF w x2 (l 2)
 k3:KF w x3 (l 3)
theorem K4.below {w w':World} {x0 x1 x2 x3:FV} {l:Nat->Rat} (h:K4 w x0 x1 x2 x3 l) (hb:Below w.heap.size w w'):K4 w' x0 x1 x2 x3 l:=⟨h.k0.below hb,h.k1.below hb,h.k2.below hb,h.k3.below hb⟩
end Pol
end Go.Proofs.YthacfgmdihcffaaGreatDoor
