/-
  What Coefs keeps: maps beside each other. (begun)
-/
import Derived.Test.YtgkkbkoiaccmfaaGreatDoorPzON
import Derived.SizedLaws
import Derived.Lib.EndianBits
set_option linter.unusedSimpArgs false
set_option linter.unusedVariables false
set_option maxHeartbeats 16000000
set_option maxRecDepth 100000
namespace Go.Proofs.YtgkkbkoiaccmfaaGreatDoor
namespace Pol
open Go.RowKit Go.Sort Limb
structure RE (w:World) (b off i:Nat) (t:TV):Prop where
 lt:b<w.heap.size
 cell:∀ j v,t.cells[j]?=some v->w.cell? ⟨b,off+i*8+j,none⟩=some v
theorem RE.below {w w':World} {b off i:Nat} {t:TV} (h:RE w b off i t) (hb:Below w.heap.size w w'):RE w' b off i t :=
 ⟨Nat.lt_of_lt_of_le h.lt hb.size,fun j v hj=>(hb.cell (p:=⟨b,off+i*8+j,none⟩) h.lt).trans (h.cell j v hj)⟩
theorem RE.eight {w:World} {b off i:Nat} {t:TV} (h:RE w b off i t) :
  w.cell? ⟨b,off+i*8,none⟩=some (.bool t.c.t.s)/\w.cell? ⟨b,off+i*8+1,none⟩=some (.slice t.c.t.a t.c.t.n t.c.t.c)/\w.cell? ⟨b,off+i*8+2,none⟩=some (.bool t.c.l.s)/\w.cell? ⟨b,off+i*8+3,none⟩=some (.slice t.c.l.a t.c.l.n t.c.l.c) /\
  w.cell? ⟨b,off+i*8+4,none⟩=some (.int .u16 t.m.x)/\w.cell? ⟨b,off+i*8+5,none⟩=some (.int .u16 t.m.y)/\w.cell? ⟨b,off+i*8+6,none⟩=some (.int .u16 t.m.z)/\w.cell? ⟨b,off+i*8+7,none⟩=some (.int .u16 t.m.t) :=
 ⟨h.cell 0 _ rfl,h.cell 1 _ rfl,h.cell 2 _ rfl,h.cell 3 _ rfl,h.cell 4 _ rfl,h.cell 5 _ rfl,h.cell 6 _ rfl,h.cell 7 _ rfl⟩
theorem RT.one {w:World} {a:Option Addr} {ts:List TV} (h:RT w a ts) (hn:ts≠[]):∃ b off,a=some ⟨b,off,none⟩/\∀ i t,ts[i]?=some t->RE w b off i t:=by
 obtain⟨b,off,ha,hc⟩:=h.ex hn;exact⟨b,off,ha,fun i t hi=>⟨block_lt_of_cell (hc i t hi 0 _ rfl),hc i t hi⟩⟩
theorem jhk (t u:TV) (q:Rat) (w:World) (h1:KF w t.c q) (h2:KF w u.c q) (hm:t.m=u.m) (hq:LQ q 900000):Calls Tryz.prog 40 #[TV.v t,TV.v u] w fun e w'=>e=.returned (.bool true)/\Below w.heap.size w w':=by
 obtain⟨V,hV⟩:∃ V,V=(w.alloc (.cells #[.bool t.c.t.s,.slice t.c.t.a t.c.t.n t.c.t.c,.bool t.c.l.s,.slice t.c.l.a t.c.l.n t.c.l.c,.int .u16 t.m.x,.int .u16 t.m.y,.int .u16 t.m.z,.int .u16 t.m.t] 71)).alloc (.cells #[.bool u.c.t.s,.slice u.c.t.a u.c.t.n u.c.t.c,.bool u.c.l.s,.slice u.c.l.a u.c.l.n u.c.l.c,.int .u16 u.m.x,.int .u16 u.m.y,.int .u16 u.m.z,.int .u16 u.m.t] 71):=⟨_,rfl⟩
 have hbV:Below w.heap.size w V:=by rw[hV];exact(zk.alloc zj _).alloc (by go_size) _
 have B1:=qh (show Bxs V w.heap.size 71 [.bool t.c.t.s,.slice t.c.t.a t.c.t.n t.c.t.c,.bool t.c.l.s,.slice t.c.l.a t.c.l.n t.c.l.c,.int .u16 t.m.x,.int .u16 t.m.y,.int .u16 t.m.z,.int .u16 t.m.t] by rw[hV];exact(Bxs.new w 71 [.bool t.c.t.s,.slice t.c.t.a t.c.t.n t.c.t.c,.bool t.c.l.s,.slice t.c.l.a t.c.l.n t.c.l.c,.int .u16 t.m.x,.int .u16 t.m.y,.int .u16 t.m.z,.int .u16 t.m.t]).alloc _)
 have B2:=qh (show Bxs V (w.heap.size+1) 71 [.bool u.c.t.s,.slice u.c.t.a u.c.t.n u.c.t.c,.bool u.c.l.s,.slice u.c.l.a u.c.l.n u.c.l.c,.int .u16 u.m.x,.int .u16 u.m.y,.int .u16 u.m.z,.int .u16 u.m.t] by
  have h:=Bxs.new (w.alloc (.cells #[.bool t.c.t.s,.slice t.c.t.a t.c.t.n t.c.t.c,.bool t.c.l.s,.slice t.c.l.a t.c.l.n t.c.l.c,.int .u16 t.m.x,.int .u16 t.m.y,.int .u16 t.m.z,.int .u16 t.m.t] 71)) 71 [.bool u.c.t.s,.slice u.c.t.a u.c.t.n u.c.t.c,.bool u.c.l.s,.slice u.c.l.a u.c.l.n u.c.l.c,.int .u16 u.m.x,.int .u16 u.m.y,.int .u16 u.m.z,.int .u16 u.m.t];rw[World.size_alloc] at h
  rw[hV];exact h)
 have KG:=qh hbV;have SF:=qh (jfl (h1.below hbV) (h1.len hq zj) (h2.below hbV) (h2.len hq zj) rfl);have HV:=qh hV;obtain⟨tc,⟨mx,my,mz,mt⟩⟩:=t;obtain⟨uc,um⟩:=u;change (⟨mx,my,mz,mt⟩:Mo)=um at hm;subst hm;change Calls Tryz.prog 40 #[.agg #[.bool tc.t.s,.slice tc.t.a tc.t.n tc.t.c,.bool tc.l.s,.slice tc.l.a tc.l.n tc.l.c,.int .u16 mx,.int .u16 my,.int .u16 mz,.int .u16 mt],.agg #[.bool uc.t.s,.slice uc.t.a uc.t.n uc.t.c,.bool uc.l.s,.slice uc.l.a uc.l.n uc.l.c,.int .u16 mx,.int .u16 my,.int .u16 mz,.int .u16 mt]] w _;clear hV hbV h1 h2 hq;go_enter Tryz.func40,Tryz.ntmps40
 go_upto_region 1 with (fail)
 rw[show(w.alloc (.cells #[.bool tc.t.s,.slice tc.t.a tc.t.n tc.t.c,.bool tc.l.s,.slice tc.l.a tc.l.n tc.l.c,.int .u16 mx,.int .u16 my,.int .u16 mz,.int .u16 mt] 71)).alloc (.cells #[.bool uc.t.s,.slice uc.t.a uc.t.n uc.t.c,.bool uc.l.s,.slice uc.l.a uc.l.n uc.l.c,.int .u16 mx,.int .u16 my,.int .u16 mz,.int .u16 mt] 71)=V from HV.o.symm];have c10:=B1.o.ce 0;have c11:=B1.o.ce 1;have c12:=B1.o.ce 2;have c13:=B1.o.ce 3;have c14:=B1.o.ce 4;have c15:=B1.o.ce 5;have c16:=B1.o.ce 6;have c17:=B1.o.ce 7;have c20:=B2.o.ce 0;have c21:=B2.o.ce 1;have c22:=B2.o.ce 2;have c23:=B2.o.ce 3;have c24:=B2.o.ce 4;have c25:=B2.o.ce 5;have c26:=B2.o.ce 6;have c27:=B2.o.ce 7;go_wp2_with fail
 with_reducible refine SF.o.mono ?_
 rintro e w1 ⟨rfl,hb⟩;have KG:=qk KG hb;have B1:=qh (B1.o.bl hb);have B2:=qh (B2.o.bl hb);clear hb SF c10 c11 c12 c13 c14 c15 c16 c17 c20 c21 c22 c23 c24 c25 c26 c27;have c10:=B1.o.ce 0;have c11:=B1.o.ce 1;have c12:=B1.o.ce 2;have c13:=B1.o.ce 3;have c14:=B1.o.ce 4;have c15:=B1.o.ce 5;have c16:=B1.o.ce 6;have c17:=B1.o.ce 7;have c20:=B2.o.ce 0;have c21:=B2.o.ce 1;have c22:=B2.o.ce 2;have c23:=B2.o.ce 3;have c24:=B2.o.ce 4;have c25:=B2.o.ce 5;have c26:=B2.o.ce 6;have c27:=B2.o.ce 7;go_wp2_with fail
 go_ret;exact⟨rfl,KG.o⟩
theorem same_k (x y:PV) (P:List Tm) (w:World) (hx:KP w x P) (hy:KP w y P) (hp:∀ t∈P,LQ t.2 900000) (hn:P.length<=1000000):Calls Tryz.prog 18 #[x.v,y.v] w fun e w'=>e=.returned (.bool true)/\Below w.heap.size w w':=by
 have hxl:=hx.len;have hyl:=hy.len;obtain⟨xa,xn,xc⟩:=x;obtain⟨ya,n,yc⟩:=y;change xn=P.length at hxl;change n=P.length at hyl;obtain rfl:xn=n:=hxl.trans hyl.symm;obtain⟨L1,g1,g2,g3,g4⟩:=hx.ex;obtain⟨L2,k3,k4,k5,k6⟩:=hy.ex;have HP:=qh hp;have HNN:=qh (show xn<=1000000 by rw[hyl];exact hn);have R1:=qh g1;have R2:=qh k3;have F1:=qh g3;have F2:=qh k5;have T1:=qh g4;have T2:=qh k6;have N1:=qh (show L1.length=xn from g2);have N2:=qh (show L2.length=xn from k4);change Calls Tryz.prog 18 #[.slice xa xn xc,.slice ya xn yc] w _;clear hx hy hp hn hxl hyl g1 g2 g3 g4 k3 k4 k5 k6;go_enter Tryz.func18,Tryz.ntmps18;go_wp2_with fail
 go_loopw [5] (fun i wr=>∃ j:Nat,j<=xn/\i=.int .i64 j/\Below w.heap.size w wr) (fun i _=>xn-(intOf i).toNat)
 case atStart =>
  exact⟨0,Nat.zero_le _,rfl,zk⟩
 case round =>
  obtain⟨j,hj,rfl,hb0⟩:=hrel;have HJ:=qh hj;have KG:=qh hb0;clear hj hb0;by_cases hjn:j<xn
  ·have HJN:=qh hjn
   have h1l:j<L1.length:=by rw[N1.o];exact hjn
   have h2l:j<L2.length:=by rw[N2.o];exact hjn
   obtain⟨pb,po,rfl,hc1⟩:=(R1.o.below KG.o).one (fun h=>by rw[List.map_eq_nil_iff] at h;rw[h] at h1l;simp at h1l);obtain⟨qb,qo,rfl,hc2⟩:=(R2.o.below KG.o).one (fun h=>by rw[List.map_eq_nil_iff] at h;rw[h] at h2l;simp at h2l);obtain⟨⟨t,q⟩,he1⟩:∃ e,L1[j]?=some e:=⟨_,List.getElem?_eq_getElem h1l⟩;obtain⟨⟨u,r⟩,he2⟩:∃ e,L2[j]?=some e:=⟨_,List.getElem?_eq_getElem h2l⟩;have E1:=qh (hc1 j t (by rw[List.getElem?_map,he1];rfl));have E2:=qh (hc2 j u (by rw[List.getElem?_map,he2];rfl))
   have p1:P[j]?=some (t.m,q):=by rw[<- T1.o,List.getElem?_map,he1];rfl
   have p2:P[j]?=some (u.m,r):=by rw[<- T2.o,List.getElem?_map,he2];rfl
   have pe:(t.m,q)=(u.m,r):=Option.some.inj (p1.symm.trans p2);have HMM:=qh (show t.m=u.m from congrArg Prod.fst pe);obtain rfl:q=r:=congrArg Prod.snd pe;have NT:=qh (show KF wr t.c q from(F1.o _ (List.mem_of_getElem? he1)).below KG.o);have NU:=qh (show KF wr u.c q from(F2.o _ (List.mem_of_getElem? he2)).below KG.o);have LQq:=qh (HP.o _ (List.mem_of_getElem? p1));have ek:IntKind.i64.wrap ((j:Int)+1)=(j:Int)+1:=IntWalk.i64_in _ (by have:=HJN.o;have:=HNN.o;omega);clear hc1 hc2 he1 he2 p1 p2 pe h1l h2l
   go_upto_region 6 with (fail)
   refine FS.Jc 9 [] (FS.JM [(8,FS.Sp.know (.bool true))])
    (fun w'=>Below wr.heap.size wr w') (by kernel_rfl) (by kernel_rfl) (by kernel_rfl)
    (FS.Jd (FS.Sp.Jl _ _) (FS.Jk)) (fun _ _ h hb=>h.trans (hb.mono h.size)) (zk.drew) ?_
   simp only[zu,zi,ze,zx,zy,zv,zw]
   iterate 8
    refine FS.Jb rfl rfl rfl ?_ (fun w' hw'=>?_) ?_;rotate_left
    ·have hb':=hw'.world;obtain⟨hs0,hs1,hs2,hs3,hs4,hs5,hs6,hs7⟩:=(E1.o.below hb').eight;obtain⟨hs0,hs1,hs2,hs3,hs4,hs5,hs6,hs7⟩:=(E2.o.below hb').eight;clear hw';go_simp
     try rfl
    conv=>arg 10;simp only[Act.put,zq0,zq1,zq2]
   refine FS.Jf rfl rfl rfl (fun w' hw'=>?_) ?_
   ·have hb':=hw'.world;refine FS.Jn (FS.PK (.bool true)) ?_ (fun _ _ h=>h.post);go_simp;have CT:=jhk t u q w' (NT.o.below hb') (NU.o.below hb') HMM.o LQq.o;refine CT.mono ?_;rintro e w'' ⟨rfl,hb⟩;exact⟨_,rfl,rfl,hb⟩
   rintro _ rfl
   conv=>arg 10;simp only[Act.put,zq0,zq1,zq2]
   refine FS.Jo (fun w101 hb hF=>?_);clear hF;have KG:=qk KG hb;clear hb;go_wp2_with fail
   go_roundw
   case rel =>
    exact⟨j+1,by have:=HJN.o;omega,rfl,KG.o⟩
   case measure=>simp[intOf];have:=HJN.o;omega
  ·have hge:¬((j:Int)<(xn:Int)):=by omega
   clear hjn;go_wp2_with fail
   go_ret;exact⟨rfl,KG.o⟩
def IR (w:World) (e:Ending) (w':World):Prop:=∃ z:Int,e=.returned (.int .i64 z)/\Below w.heap.size w w'
theorem IR.is {w w':World} (z:Int) (h:Below w.heap.size w w'):IR w (.returned (.int .i64 z)) w':=⟨z,rfl,h⟩
def BR (w:World) (Φ:Prop) (e:Ending) (w':World):Prop:=∃ b:Bool,e=.returned (.bool b)/\(b=false->Φ)/\Below w.heap.size w w'
theorem BR.yes {w w':World} {Φ:Prop} (h:Below w.heap.size w w'):BR w Φ (.returned (.bool true)) w':=⟨true,rfl,nofun,h⟩
theorem BR.no {w w':World} {Φ:Prop} (h:Below w.heap.size w w') (hp:Φ):BR w Φ (.returned (.bool false)) w':=⟨false,rfl,fun _=>hp,h⟩
theorem jed (a:Option Addr) (n c:Nat) (w:World):Calls Tryz.prog 169 #[.slice a n c] w fun e w'=>IR w e w':=by
 go_enter Tryz.func169,Tryz.ntmps169;go_wp2_with fail
 go_ret;exact IR.is _ zk
theorem jc3 (s:Bool) (a:Option Addr) (n c:Nat) (w:World):Calls Tryz.prog 66 #[.agg #[.bool s,.slice a n c]] w fun e w'=>IR w e w':=by
 obtain⟨V,hV⟩:∃ V,V=w.alloc (.cells #[.bool s,.slice a n c] 26):=⟨_,rfl⟩
 have hbV:Below w.heap.size w V:=by rw[hV];exact zk.alloc zj _
 have B1:=qh (show Bxs V w.heap.size 26 [.bool s,.slice a n c] by rw[hV];exact Bxs.new w 26 [.bool s,.slice a n c]);have KG:=qh hbV;have HV:=qh hV;clear hV hbV;go_enter Tryz.func66,Tryz.ntmps66
 go_upto_region 1 with (fail)
 rw[show w.alloc (.cells #[.bool s,.slice a n c] 26)=V from HV.o.symm];have c0:=B1.o.ce 0;have c1:=B1.o.ce 1;go_wp2_with fail
 with_reducible refine(jed _ _ _ _).mono ?_
 rintro e w1 ⟨zw1,rfl,hb⟩;have KG:=qk KG hb;have B1:=qh (B1.o.bl hb);clear hb c0 c1;go_wp2_with fail
 go_ret;exact IR.is _ KG.o
theorem jhl (x:FV) (w:World):Calls Tryz.prog 11 #[x.v] w fun e w'=>IR w e w':=by
 obtain⟨V,hV⟩:∃ V,V=w.alloc (.cells #[.bool x.t.s,.slice x.t.a x.t.n x.t.c,.bool x.l.s,.slice x.l.a x.l.n x.l.c] 28):=⟨_,rfl⟩
 have hbV:Below w.heap.size w V:=by rw[hV];exact zk.alloc zj _
 have B1:=qh (show Bxs V w.heap.size 28 [.bool x.t.s,.slice x.t.a x.t.n x.t.c,.bool x.l.s,.slice x.l.a x.l.n x.l.c] by rw[hV];exact Bxs.new w 28 [.bool x.t.s,.slice x.t.a x.t.n x.t.c,.bool x.l.s,.slice x.l.a x.l.n x.l.c]);have KG:=qh hbV;have HV:=qh hV;clear hV hbV;change Calls Tryz.prog 11 #[.agg #[.bool x.t.s,.slice x.t.a x.t.n x.t.c,.bool x.l.s,.slice x.l.a x.l.n x.l.c]] w _;go_enter Tryz.func11,Tryz.ntmps11
 go_upto_region 1 with (fail)
 rw[show w.alloc (.cells #[.bool x.t.s,.slice x.t.a x.t.n x.t.c,.bool x.l.s,.slice x.l.a x.l.n x.l.c] 28)=V from HV.o.symm];have c0:=B1.o.ce 0;have c1:=B1.o.ce 1;have c2:=B1.o.ce 2;have c3:=B1.o.ce 3;go_wp2_with fail
 with_reducible refine(jc3 _ _ _ _ _).mono ?_
 rintro e w1 ⟨zw1,rfl,hb⟩;have KG:=qk KG hb;have B1:=qh (B1.o.bl hb);clear hb c0 c1 c2 c3;by_cases h:wrap64 (1+zw1)<=1048576
 ·have c0:=B1.o.ce 0;have c1:=B1.o.ce 1;have c2:=B1.o.ce 2;have c3:=B1.o.ce 3;go_wp2_with fail
  with_reducible refine(jc3 _ _ _ _ _).mono ?_
  rintro e w2 ⟨z2,rfl,hb⟩;have KG:=qk KG hb;clear hb c0 c1 c2 c3;go_wp2_with fail
  go_ret;exact IR.is _ KG.o
 ·have h2:1048576<wrap64 (1+zw1):=by omega
  go_wp2_with fail
  go_ret;exact IR.is _ KG.o
theorem jhm (t:TV) (w:World):Calls Tryz.prog 168 #[TV.v t] w fun e w'=>IR w e w':=by
 obtain⟨V,hV⟩:∃ V,V=w.alloc (.cells #[.bool t.c.t.s,.slice t.c.t.a t.c.t.n t.c.t.c,.bool t.c.l.s,.slice t.c.l.a t.c.l.n t.c.l.c,.int .u16 t.m.x,.int .u16 t.m.y,.int .u16 t.m.z,.int .u16 t.m.t] 71):=⟨_,rfl⟩
 have hbV:Below w.heap.size w V:=by rw[hV];exact zk.alloc zj _
 have B1:=qh (show Bxs V w.heap.size 71 [.bool t.c.t.s,.slice t.c.t.a t.c.t.n t.c.t.c,.bool t.c.l.s,.slice t.c.l.a t.c.l.n t.c.l.c,.int .u16 t.m.x,.int .u16 t.m.y,.int .u16 t.m.z,.int .u16 t.m.t] by rw[hV];exact Bxs.new w 71 [.bool t.c.t.s,.slice t.c.t.a t.c.t.n t.c.t.c,.bool t.c.l.s,.slice t.c.l.a t.c.l.n t.c.l.c,.int .u16 t.m.x,.int .u16 t.m.y,.int .u16 t.m.z,.int .u16 t.m.t]);have KG:=qh hbV;have HV:=qh hV;clear hV hbV;change Calls Tryz.prog 168 #[.agg #[.bool t.c.t.s,.slice t.c.t.a t.c.t.n t.c.t.c,.bool t.c.l.s,.slice t.c.l.a t.c.l.n t.c.l.c,.int .u16 t.m.x,.int .u16 t.m.y,.int .u16 t.m.z,.int .u16 t.m.t]] w _;go_enter Tryz.func168,Tryz.ntmps168
 go_upto_region 1 with (fail)
 rw[show w.alloc (.cells #[.bool t.c.t.s,.slice t.c.t.a t.c.t.n t.c.t.c,.bool t.c.l.s,.slice t.c.l.a t.c.l.n t.c.l.c,.int .u16 t.m.x,.int .u16 t.m.y,.int .u16 t.m.z,.int .u16 t.m.t] 71)=V from HV.o.symm];have c0:=B1.o.ce 0;have c1:=B1.o.ce 1;have c2:=B1.o.ce 2;have c3:=B1.o.ce 3;have c4:=B1.o.ce 4;have c5:=B1.o.ce 5;have c6:=B1.o.ce 6;have c7:=B1.o.ce 7;go_wp2_with fail
 with_reducible refine(jhl t.c _).mono ?_
 rintro e w1 ⟨zw1,rfl,hb⟩;have KG:=qk KG hb;have B1:=qh (B1.o.bl hb);clear hb c0 c1 c2 c3 c4 c5 c6 c7;go_wp2_with fail
 go_ret;exact IR.is _ KG.o
theorem jhn (x:PV) (ts:List TV) (w:World) (hr:RT w x.a ts) (hl:ts.length=x.n) (hn:x.n<=1000000000):Calls Tryz.prog 65 #[x.v] w fun e w'=>IR w e w':=by
 obtain⟨xa,xn,xc⟩:=x;have HR:=qh hr;have HL:=qh (show ts.length=xn from hl);have HN:=qh (show xn<=1000000000 from hn);change Calls Tryz.prog 65 #[.slice xa xn xc] w _;clear hr hl hn;go_enter Tryz.func65,Tryz.ntmps65;go_wp2_with fail
 go_loopw [3,4] (fun s i wr=>∃ (j:Nat) (z:Int),j<=xn/\i=.int .i64 j/\s=.int .i64 z/\Below w.heap.size w wr) (fun _ i _=>xn-(intOf i).toNat)
 case atStart =>
  exact⟨0,_,Nat.zero_le _,rfl,rfl,zk⟩
 case round =>
  obtain⟨j,z,hj,rfl,rfl,hb0⟩:=hrel;have HJ:=qh hj;have KG:=qh hb0;clear hj hb0;by_cases hjn:j<xn
  ·by_cases hz:z<=1048576
   ·have HJN:=qh hjn
    have hjl:j<ts.length:=by rw[HL.o];exact hjn
    obtain⟨pb,po,rfl,hc⟩:=(HR.o.below KG.o).one (fun h=>by rw[h] at hjl;simp at hjl);obtain⟨t,he⟩:∃ t,ts[j]?=some t:=⟨_,List.getElem?_eq_getElem hjl⟩;obtain⟨c0,c1,c2,c3,c4,c5,c6,c7⟩:=(hc j t he).eight;have ek:IntKind.i64.wrap ((j:Int)+1)=(j:Int)+1:=IntWalk.i64_in _ (by have:=HJN.o;have:=HN.o;omega);clear hc he hjl;go_wp2_with fail
    with_reducible refine(jhm t _).mono ?_
    rintro e w1 ⟨z1,rfl,hb⟩;have KG:=qk KG hb;clear hb c0 c1 c2 c3 c4 c5 c6 c7;go_wp2_with fail
    go_roundw
    case rel =>
     exact⟨j+1,_,by have:=HJN.o;omega,rfl,rfl,KG.o⟩
    case measure=>simp[intOf];have:=HJN.o;omega
   ·have hz2:1048576<z:=by omega
    go_wp2_with fail
    go_ret;exact IR.is _ KG.o
  ·have hge:¬((j:Int)<(xn:Int)):=by omega
   clear hjn;go_wp2_with fail
   go_ret;exact IR.is _ KG.o
def XI (m:Nat) (ts:List TV):Prop:=ts.length<=m/\∀ t∈ts,t.c.t.n<=4/\t.c.l.n<=1
def jho (m:Nat) (Xs:List (PV × List TV)):Prop:=∀ e∈Xs,XI m e.2
theorem jee (g m k:Nat) (Xs:List (PV × List TV)) (w:World) (hk:Xs.length=k) (hc:∀ i e,Xs[i]?=some e->w.cell? ⟨g,i,none⟩=some e.1.v) (hr:∀ e∈Xs,RT w e.1.a e.2/\e.2.length=e.1.n)
  (hn:Xs.length<=1000) (hm:m<=1000) :
  Calls Tryz.prog 10 #[.int .i64 m,.slice (some ⟨g,0,none⟩) k k] w (BR w (jho m Xs)):=by
 have HK:=qh hk;have HC:=qh hc;have HR:=qh hr;have HN:=qh hn;have HM:=qh hm;clear hk hc hr hn hm;go_enter Tryz.func10,Tryz.ntmps10;go_wp2_with fail
 go_loopw [5] (fun i wr=>∃ j:Nat,j<=k/\i=.int .i64 j/\(∀ i e,Xs[i]?=some e->i<j->XI m e.2)/\Below w.heap.size w wr) (fun i _=>k-(intOf i).toNat)
 case atStart =>
  exact⟨0,Nat.zero_le _,rfl,fun i e _ h=>absurd h (Nat.not_lt_zero _),zk⟩
 case round =>
  obtain⟨j,hj,rfl,hg,hb0⟩:=hrel;have HJ:=qh hj;have HG:=qh hg;have KG:=qh hb0;clear hj hg hb0;by_cases hjn:j<k
  ·have HJN:=qh hjn;obtain⟨⟨⟨xa,xn,xc⟩,ts⟩,he⟩:∃ e,Xs[j]?=some e:=⟨_,List.getElem?_eq_getElem (by rw[HK.o];exact hjn)⟩;have HE:=qh he;have CG:=qh (show ∀ w2,Below w.heap.size w w2->w2.cell? ⟨g,j,none⟩=some (.slice xa xn xc) from fun (w2:World) (h:Below w.heap.size w w2)=>(h.cell (p:=⟨g,j,none⟩) (block_lt_of_cell (HC.o j _ he))).trans (HC.o j _ he));have c0:=CG.o _ KG.o;obtain⟨r1,r2⟩:=HR.o _ (List.mem_of_getElem? he);have RX:=qh r1;have LX:=qh (show ts.length=xn from r2);have ek:IntKind.i64.wrap ((j:Int)+1)=(j:Int)+1:=IntWalk.i64_in _ (by have:=HJN.o;have:=HK.o;have:=HN.o;omega);have em:IntKind.i64.wrap (40*(m:Int))=40*(m:Int):=IntWalk.i64_in _ (by have:=HM.o;omega);clear he r1 r2;by_cases hxm:xn<=m
   ·have HXM:=qh hxm;have NX:=qh (show xn<=1000000000 by have:=HM.o;omega)
    have h1:¬((xn:Int)>(m:Int)):=by omega
    have h2:¬((m:Int)<(xn:Int)):=by omega
    have PS:=qh (jhn ⟨xa,xn,xc⟩ ts wr (RX.o.below KG.o) LX.o NX.o);clear hxm;go_wp2_with fail
    with_reducible refine PS.o.mono ?_
    rintro e w1 ⟨z,rfl,hb⟩;have KG:=qk KG hb;clear hb PS c0;by_cases hz:z>40*(m:Int)
    ·have hz2:40*(m:Int)<z:=hz;go_wp2_with fail
     go_ret;exact BR.yes KG.o
    ·have hz2:¬(40*(m:Int)<z):=hz;go_wp2_with fail
     go_loopw [6] (fun i wr=>∃ l:Nat,l<=xn/\i=.int .i64 l/\(∀ i t,ts[i]?=some t->i<l->t.c.t.n<=4/\t.c.l.n<=1)/\Below w.heap.size w wr) (fun i _=>xn-(intOf i).toNat)
     case atStart =>
      exact⟨0,Nat.zero_le _,rfl,fun i e _ h=>absurd h (Nat.not_lt_zero _),KG.o⟩
     case round =>
      obtain⟨l,hl,rfl,hg2,hb0⟩:=hrel;have HL:=qh hl;have HG2:=qh hg2;have KG:=qh hb0;clear hl hg2 hb0;have c0:=CG.o _ KG.o;by_cases hln:l<xn
      ·have HLN:=qh hln
       have hll:l<ts.length:=by rw[LX.o];exact hln
       obtain⟨pb,po,rfl,hc⟩:=(RX.o.below KG.o).one (fun h=>by rw[h] at hll;simp at hll);obtain⟨t,ht⟩:∃ t,ts[l]?=some t:=⟨_,List.getElem?_eq_getElem hll⟩;obtain⟨d0,d1,d2,d3,d4,d5,d6,d7⟩:=(hc l t ht).eight;have HT:=qh ht;have el:IntKind.i64.wrap ((l:Int)+1)=(l:Int)+1:=IntWalk.i64_in _ (by have:=HLN.o;have:=NX.o;omega);clear hc ht hll;by_cases h4:t.c.t.n<=4
       ·have g1:¬((t.c.t.n:Int)>4):=by omega
        have g2:¬((4:Int)<(t.c.t.n:Int)):=by omega
        by_cases h5:t.c.l.n<=1
        ·have g3:¬((t.c.l.n:Int)>1):=by omega
         have g4:¬((1:Int)<(t.c.l.n:Int)):=by omega
         have H45:=qh (show t.c.t.n<=4/\t.c.l.n<=1 from⟨h4,h5⟩);clear h4 h5;go_wp2_with fail
         go_roundw
         case rel =>
          refine⟨l+1,by have:=HLN.o;omega,rfl,fun i t' h1 h2=>?_,KG.o⟩;by_cases h3:i<l
          ·exact HG2.o i t' h1 h3
          ·obtain rfl:i=l:=by omega
           rw[HT.o] at h1;obtain rfl:=Option.some.inj h1;exact H45.o
         case measure=>simp[intOf];have:=HLN.o;omega
        ·have g3:(t.c.l.n:Int)>1:=by omega
         have g4:(1:Int)<(t.c.l.n:Int):=by omega
         clear h4 h5;go_wp2_with fail
         go_ret;exact BR.yes KG.o
       ·have g1:(t.c.t.n:Int)>4:=by omega
        have g2:(4:Int)<(t.c.t.n:Int):=by omega
        clear h4;go_wp2_with fail
        go_ret;exact BR.yes KG.o
      ·have hge:¬((l:Int)<(xn:Int)):=by omega
       have HLE:=qh (show l=xn by have:=HL.o;omega);clear hln;go_wp2_with fail
       go_roundw
       case rel =>
        refine⟨j+1,by have:=HJN.o;omega,rfl,fun i e' h1 h2=>?_,KG.o⟩;by_cases h3:i<j
        ·exact HG.o i e' h1 h3
        ·obtain rfl:i=j:=by omega
         rw[HE.o] at h1;obtain rfl:=Option.some.inj h1;refine⟨by have h5:=LX.o;have h6:=HXM.o;show ts.length<=m;omega,fun t ht=>?_⟩;obtain⟨i2,h7⟩:=List.mem_iff_getElem?.1 (show t∈ts from ht);exact HG2.o i2 t h7 (by have h8:=(List.getElem?_eq_some_iff.1 h7).1;have h5:=LX.o;have h9:=HLE.o;omega)
       case measure=>simp[intOf];have:=HJN.o;omega
   ·have h1:(xn:Int)>(m:Int):=by omega
    have h2:(m:Int)<(xn:Int):=by omega
    clear hxm;go_wp2_with fail
    go_ret;exact BR.yes KG.o
  ·have hge:¬((j:Int)<(k:Int)):=by omega
   have HJE:=qh (show j=k by have:=HJ.o;omega);clear hjn;go_wp2_with fail
   go_ret
   refine BR.no KG.o fun e he=>?_
   obtain⟨i,h⟩:=List.mem_iff_getElem?.1 he;exact HG.o i e h (by have h8:=(List.getElem?_eq_some_iff.1 h).1;have h9:=HJE.o;have:=HK.o;omega)
structure TwN (w:World) (lo:Nat) (t x:NV) (o:Nat->Int):Prop where
 s:t.s=x.s
 n:t.n=x.n
 c:t.c=x.n+1
 own:Limb.Own 160 w lo t.a (x.n+1) (x.n+1) (tw o x.n)
structure TwF (w:World) (lo:Nat) (t x:FV) (o1 o2:Nat->Int):Prop where
 top:TwN w lo t.t x.t o1
 low:TwN w lo t.l x.l o2
 ap:Xr t.t.a t.l.a
theorem TwN.kept {w w':World} {lo:Nat} {t x:NV} {o:Nat->Int} (h:TwN w lo t x o) (hk:∀ b,t.blk b->w'.heap[b]?=w.heap[b]?):TwN w' lo t x o:=⟨h.s,h.n,h.c,h.own.kept hk⟩
theorem TwN.QK {w:World} {lo:Nat} {t x:NV} {o:Nat->Int} (h:TwN w lo t x o):∀ b,t.blk b->lo<=b/\b<w.heap.size:=fun b ⟨p,hp,e⟩=>by
 rcases h.own.place with h0 | ⟨g,cur,ha,hlo,hg,_⟩
 ·rw[h0.1] at hp;cases hp
 ·rw[ha] at hp
  cases hp
  subst e;exact⟨hlo,lt_of_block hg⟩
theorem TwN.below {w w':World} {lo:Nat} {t x:NV} {o:Nat->Int} (h:TwN w lo t x o) (hb:Below w.heap.size w w'):TwN w' lo t x o:=h.kept fun b h1=>hb.block b (h.QK b h1).2
theorem TwN.mono {w:World} {lo lo':Nat} {t x:NV} {o:Nat->Int} (h:TwN w lo t x o) (hl:lo'<=lo):TwN w lo' t x o:=⟨h.s,h.n,h.c,h.own.mono hl⟩
theorem TwF.kept {w w':World} {lo:Nat} {t x:FV} {o1 o2:Nat->Int} (h:TwF w lo t x o1 o2) (hk:∀ b,FV.blk t b->w'.heap[b]?=w.heap[b]?):TwF w' lo t x o1 o2:=⟨h.top.kept fun b hb=>hk b (Or.inl hb),h.low.kept fun b hb=>hk b (Or.inr hb),h.ap⟩
theorem TwF.QK {w:World} {lo:Nat} {t x:FV} {o1 o2:Nat->Int} (h:TwF w lo t x o1 o2):∀ b,FV.blk t b->lo<=b/\b<w.heap.size:=fun b hb=>hb.elim (h.top.QK b) (h.low.QK b)
theorem TwF.below {w w':World} {lo:Nat} {t x:FV} {o1 o2:Nat->Int} (h:TwF w lo t x o1 o2) (hb:Below w.heap.size w w'):TwF w' lo t x o1 o2:=⟨h.top.below hb,h.low.below hb,h.ap⟩
theorem TwF.mono {w:World} {lo lo':Nat} {t x:FV} {o1 o2:Nat->Int} (h:TwF w lo t x o1 o2) (hl:lo'<=lo):TwF w lo' t x o1 o2:=⟨h.top.mono hl,h.low.mono hl,h.ap⟩
theorem TwF.put {w:World} {lo:Nat} {t x:FV} {o1 o2:Nat->Int} (h:TwF w lo t x o1 o2) {b:Nat} (hb:∀ g,FV.blk t g->g≠b) (v0 v1 v2 v3 v4 v5 v6 v7:Value):TwF (Zm w b v0 v1 v2 v3 v4 v5 v6 v7) lo t x o1 o2:=by
 have h1:∀ (u:World) (i:Nat) (v:Value) (g:Nat),g≠b->(u.setCell ⟨b,i,none⟩ v).heap[g]?=u.heap[g]?:=fun u i v g hne=>Below.heap_setCell _ _ _ _ hne
 refine h.kept fun g hg=>?_
 have hne:=hb g hg;unfold Zm;rw[h1 _ _ _ _ hne,h1 _ _ _ _ hne,h1 _ _ _ _ hne,h1 _ _ _ _ hne,h1 _ _ _ _ hne,h1 _ _ _ _ hne,h1 _ _ _ _ hne,h1 _ _ _ _ hne]
theorem jhp (x:FV) (o1 o2:Nat->Int) (w:World) (h1:Rd w x.t.a x.t.n o1) (hn1:x.t.n<=100000000) (h2:Rd w x.l.a x.l.n o2) (hn2:x.l.n<=100000000) :
  Calls Tryz.prog 13 #[x.v] w fun e w'=>∃ y:FV,e=.returned y.v/\TwF w' w.heap.size y x o1 o2/\Below w.heap.size w w' :=
 (U4 x.t.s x.t.a x.t.n x.t.c o1 x.l.s x.l.a x.l.n x.l.c o2 w h1 hn1 h2 hn2).mono fun e w' ⟨g1,g2,he,p1,p2,hne,hb⟩ =>
  ⟨⟨⟨x.t.s,some ⟨g1,0,none⟩,x.t.n,x.t.n+1⟩,⟨x.l.s,some ⟨g2,0,none⟩,x.l.n,x.l.n+1⟩⟩,he,⟨⟨rfl,rfl,rfl,p1⟩,⟨rfl,rfl,rfl,p2⟩,fun p q hp hq=>by cases hp;cases hq;exact hne⟩,hb⟩
theorem U7 (t:TV) (o1 o2:Nat->Int) (w:World) (h1:Rd w t.c.t.a t.c.t.n o1) (hn1:t.c.t.n<=100000000) (h2:Rd w t.c.l.a t.c.l.n o2) (hn2:t.c.l.n<=100000000) :
  Calls Tryz.prog 67 #[TV.v t] w fun e w'=>∃ y:FV,e=.returned (TV.v ⟨y,t.m⟩)/\TwF w' w.heap.size y t.c o1 o2/\Below w.heap.size w w':=by
 obtain⟨V,hV⟩:∃ V,V=(w.alloc (.cells #[.bool t.c.t.s,.slice t.c.t.a t.c.t.n t.c.t.c,.bool t.c.l.s,.slice t.c.l.a t.c.l.n t.c.l.c,.int .u16 t.m.x,.int .u16 t.m.y,.int .u16 t.m.z,.int .u16 t.m.t] 71)).alloc (.cells #[.bool false,.slice none 0 0,.bool false,.slice none 0 0,.int .u16 0,.int .u16 0,.int .u16 0,.int .u16 0] 71):=⟨_,rfl⟩
 have hbV:Below w.heap.size w V:=by rw[hV];exact(zk.alloc zj _).alloc (by go_size) _
 have B1:=qh (show Bxs V w.heap.size 71 [.bool t.c.t.s,.slice t.c.t.a t.c.t.n t.c.t.c,.bool t.c.l.s,.slice t.c.l.a t.c.l.n t.c.l.c,.int .u16 t.m.x,.int .u16 t.m.y,.int .u16 t.m.z,.int .u16 t.m.t] by rw[hV];exact(Bxs.new w 71 [.bool t.c.t.s,.slice t.c.t.a t.c.t.n t.c.t.c,.bool t.c.l.s,.slice t.c.l.a t.c.l.n t.c.l.c,.int .u16 t.m.x,.int .u16 t.m.y,.int .u16 t.m.z,.int .u16 t.m.t]).alloc _)
 have B2:=qh (show Bxs V (w.heap.size+1) 71 [.bool false,.slice none 0 0,.bool false,.slice none 0 0,.int .u16 0,.int .u16 0,.int .u16 0,.int .u16 0] by
  have h:=Bxs.new (w.alloc (.cells #[.bool t.c.t.s,.slice t.c.t.a t.c.t.n t.c.t.c,.bool t.c.l.s,.slice t.c.l.a t.c.l.n t.c.l.c,.int .u16 t.m.x,.int .u16 t.m.y,.int .u16 t.m.z,.int .u16 t.m.t] 71)) 71 [.bool false,.slice none 0 0,.bool false,.slice none 0 0,.int .u16 0,.int .u16 0,.int .u16 0,.int .u16 0];rw[World.size_alloc] at h
  rw[hV];exact h)
 have HR1:=qh (h1.below hbV);have HR2:=qh (h2.below hbV);have HN1:=qh hn1;have HN2:=qh hn2;have KG:=qh hbV;have HV:=qh hV;obtain⟨A2,hA2⟩:∃ A,A=w.heap.size+1:=⟨_,rfl⟩;have HA2:=qh (show w.heap.size<=A2 by omega);rw[<- hA2] at B2;have HA3:=qh hA2;have HAV:=qh B2.o.lt;have HSZ:=qh KG.o.size;clear hV hbV h1 h2 hn1 hn2 hA2;change Calls Tryz.prog 67 #[.agg #[.bool t.c.t.s,.slice t.c.t.a t.c.t.n t.c.t.c,.bool t.c.l.s,.slice t.c.l.a t.c.l.n t.c.l.c,.int .u16 t.m.x,.int .u16 t.m.y,.int .u16 t.m.z,.int .u16 t.m.t]] w _;go_enter Tryz.func67,Tryz.ntmps67
 go_upto_region 1 with (fail)
 rw[show(w.alloc (.cells #[.bool t.c.t.s,.slice t.c.t.a t.c.t.n t.c.t.c,.bool t.c.l.s,.slice t.c.l.a t.c.l.n t.c.l.c,.int .u16 t.m.x,.int .u16 t.m.y,.int .u16 t.m.z,.int .u16 t.m.t] 71)).alloc (.cells #[.bool false,.slice none 0 0,.bool false,.slice none 0 0,.int .u16 0,.int .u16 0,.int .u16 0,.int .u16 0] 71)=V from HV.o.symm,show w.heap.size+1=A2 from HA3.o.symm]
 go_upto_region 1 with (fail)
 refine FS.Jc 6 [] (FS.JM [(2,FS.Sp.made (fun x:FV=>x.v) (fun x w'=>TwF w' V.heap.size x t.c o1 o2) FV.blk)])
  (fun w'=>Below V.heap.size V w') (by kernel_rfl) (by kernel_rfl) (by kernel_rfl)
  (FS.Jd (FS.Sp.Jg _ (fun _ _ _ h _ hk=>h.kept hk) (FS.JN (by kernel_rfl))) (FS.Jk)) (fun _ _ h hb=>h.trans (hb.mono h.size)) (zk.drew) ?_
 simp only[zu,zi,ze,zx,zy,zv,zw]
 iterate 2
  refine FS.Jb rfl rfl rfl ?_ (fun w' hw'=>?_) ?_;rotate_left
  ·have hb':=hw'.world;have hs0:=(B1.o.bl hb').ce 0;have hs1:=(B1.o.bl hb').ce 1;have hs2:=(B1.o.bl hb').ce 2;have hs3:=(B1.o.bl hb').ce 3;have hs4:=(B1.o.bl hb').ce 4;have hs5:=(B1.o.bl hb').ce 5;have hs6:=(B1.o.bl hb').ce 6;have hs7:=(B1.o.bl hb').ce 7;have hsf:=(B1.o.bl hb').fz;have hsl:=(B1.o.bl hb').lt;clear hw';go_simp
   try rfl
  conv=>arg 10;simp only[Act.put,zq0,zq1,zq2]
 refine FS.Jf rfl rfl rfl (fun w' hw'=>?_) ?_
 ·have hb':=hw'.world;refine FS.Jn (FS.PM (fun x:FV=>x.v) (fun x w'=>TwF w' V.heap.size x t.c o1 o2) FV.blk w'.heap.size) ?_ (fun _ _ h=>h.post (fun _ _=>FV.inj));go_simp;have CT:=(show Calls Tryz.prog 13 #[.agg #[.bool t.c.t.s,.slice t.c.t.a t.c.t.n t.c.t.c,.bool t.c.l.s,.slice t.c.l.a t.c.l.n t.c.l.c]] w' _ from jhp t.c o1 o2 w' (HR1.o.below hb') HN1.o (HR2.o.below hb') HN2.o);refine CT.mono ?_;rintro e w'' ⟨za,rfl,ho,hb⟩;exact⟨_,rfl,⟨za,rfl,ho.mono hb'.size,ho.QK⟩,hb⟩
 rintro _ ⟨y2,rfl⟩
 conv=>arg 10;simp only[Act.put,zq0,zq1,zq2]
 iterate 3
  refine FS.Jb rfl rfl rfl ?_ (fun w' hw'=>?_) ?_;rotate_left
  ·have hb':=hw'.world;have hs0:=(B1.o.bl hb').ce 0;have hs1:=(B1.o.bl hb').ce 1;have hs2:=(B1.o.bl hb').ce 2;have hs3:=(B1.o.bl hb').ce 3;have hs4:=(B1.o.bl hb').ce 4;have hs5:=(B1.o.bl hb').ce 5;have hs6:=(B1.o.bl hb').ce 6;have hs7:=(B1.o.bl hb').ce 7;have hsf:=(B1.o.bl hb').fz;have hsl:=(B1.o.bl hb').lt;clear hw';go_simp
   try rfl
  conv=>arg 10;simp only[Act.put,zq0,zq1,zq2]
 refine FS.Jo (fun w101 hb hF=>?_);have N102:=qh (show TwF w101 V.heap.size y2 t.c o1 o2 from(FS.JU (val:=(fun x:FV=>x.v)) (Φ:=fun x w'=>TwF w' V.heap.size x t.c o1 o2) (fun _ _=>FV.inj) (hF.all 2)));clear hF;have B1:=qh (B1.o.bl hb);have B2:=qh (B2.o.bl hb);have KG:=qk KG hb;clear hb;have HD:=qh (show TwF (Zm w101 A2 (.bool y2.t.s) (.slice y2.t.a y2.t.n y2.t.c) (.bool y2.l.s) (.slice y2.l.a y2.l.n y2.l.c) (.int .u16 t.m.x) (.int .u16 t.m.y) (.int .u16 t.m.z) (.int .u16 t.m.t)) w.heap.size y2 t.c o1 o2 from(N102.o.put (fun g hg=>by have:=(N102.o.QK g hg).1;have:=HAV.o;omega) ..).mono HSZ.o);have HB:=qh (show Below w.heap.size w (Zm w101 A2 (.bool y2.t.s) (.slice y2.t.a y2.t.n y2.t.c) (.bool y2.l.s) (.slice y2.l.a y2.l.n y2.l.c) (.int .u16 t.m.x) (.int .u16 t.m.y) (.int .u16 t.m.z) (.int .u16 t.m.t)) from Kb KG.o HA2.o ..);have c20:=B2.o.ce 0;have c21:=B2.o.ce 1;have c22:=B2.o.ce 2;have c23:=B2.o.ce 3;have c24:=B2.o.ce 4;have c25:=B2.o.ce 5;have c26:=B2.o.ce 6;have c27:=B2.o.ce 7;have c2f:=B2.o.fz;have c2l:=B2.o.lt;go_wp2_with fail
 exact bodyPost_ret (Je rfl _ _ _ _ _ _ _ rfl (VM B2.o ..) Tryz.underlying71 rfl (by kernel_rfl)) rfl ⟨y2,rfl,HD.o,HB.o⟩
open Go.ChangeShapes Go.WideShapes Go.ChangeAt
structure FZ (x:FV) (z:Int):Prop where
 lo:0<=z
 hi:z<=1000000000000000
 is:z<=1000->x.t.n<=z.toNat/\x.l.n<=z.toNat
end Pol
namespace Book
open Go.RowKit Go.Sort Go.FreshG Limb Pol
def Ql:List TV->Nat->List HL
 | [],_=>[]
 | t :: r,q=>⟨t.c.t.a,t.c.t.n,t.c.t.c,q⟩ :: ⟨t.c.l.a,t.c.l.n,t.c.l.c,q+1⟩ :: Ql r (q+2)
theorem Zi:∀ (ts:List TV) (q:Nat),(Ql ts q).length=2*ts.length
 | [],_=>rfl
 | t :: r,q=>by
  show(Ql r (q+2)).length+1+1=2*(r.length+1);rw[Zi r (q+2)];omega
theorem YG:∀ (ts:List TV) (t:TV) (q:Nat),Ql (ts++[t]) q=Ql ts q++[⟨t.c.t.a,t.c.t.n,t.c.t.c,q+2*ts.length⟩]++[⟨t.c.l.a,t.c.l.n,t.c.l.c,q+2*ts.length+1⟩]
 | [],t,q=>rfl
 | s :: r,t,q=>by
  show(⟨s.c.t.a,s.c.t.n,s.c.t.c,q⟩:HL) :: ⟨s.c.l.a,s.c.l.n,s.c.l.c,q+1⟩ :: Ql (r++[t]) (q+2)=⟨s.c.t.a,s.c.t.n,s.c.t.c,q⟩ :: ⟨s.c.l.a,s.c.l.n,s.c.l.c,q+1⟩ :: (Ql r (q+2)++[_]++[_]);rw[YG r t (q+2),List.length_cons,show q+2+2*r.length=q+2*(r.length+1) by omega]
theorem RE.QE {base:Nat} {w w':World} {b o i:Nat} {t:TV} (h:RE w b o i t) (hk:Qy base w w') (hb:b<base):RE w' b o i t :=
 ⟨Nat.lt_of_lt_of_le h.lt hk.bel.size,fun j v hj=>(World.cell?_of_block (a:=⟨b,o+i*8+j,none⟩) (hk.bel.block b hb)).trans (h.cell j v hj)⟩
theorem BkS.term {w:World} {b base q:Nat} {L M:List HL} (h:BkS w b base q L M) (hk:L.length<=29990) (hq:q<=59990) (t:TV) :
  Calls Tryz.prog 45 #[.pointer (some ⟨b,0,none⟩),TV.v t] w (Vg b base (q+2) (fracL L q t.c.t.a t.c.t.n t.c.t.c t.c.l.a t.c.l.n t.c.l.c) M w):=by
 obtain⟨V,hV⟩:∃ V,V=w.alloc (.cells #[.bool t.c.t.s,.slice t.c.t.a t.c.t.n t.c.t.c,.bool t.c.l.s,.slice t.c.l.a t.c.l.n t.c.l.c,.int .u16 t.m.x,.int .u16 t.m.y,.int .u16 t.m.z,.int .u16 t.m.t] 71):=⟨_,rfl⟩;have HS:=qh (show BkS V b base q L M by rw[hV];exact h.alloc _);have HA:=qh (show Qy base w V by rw[hV];exact Qy.alloc h.hw _);have B3:=qh (show Bxs V w.heap.size 71 [.bool t.c.t.s,.slice t.c.t.a t.c.t.n t.c.t.c,.bool t.c.l.s,.slice t.c.l.a t.c.l.n t.c.l.c,.int .u16 t.m.x,.int .u16 t.m.y,.int .u16 t.m.z,.int .u16 t.m.t] by rw[hV];exact Bxs.new w 71 [.bool t.c.t.s,.slice t.c.t.a t.c.t.n t.c.t.c,.bool t.c.l.s,.slice t.c.l.a t.c.l.n t.c.l.c,.int .u16 t.m.x,.int .u16 t.m.y,.int .u16 t.m.z,.int .u16 t.m.t]);have HV:=qh hV;have K:=qh (HS.o.frac hk hq t.c.t.s t.c.t.a t.c.t.n t.c.t.c t.c.l.s t.c.l.a t.c.l.n t.c.l.c);clear h hk hq hV;change Calls Tryz.prog 45 #[.pointer (some ⟨b,0,none⟩),.agg #[.bool t.c.t.s,.slice t.c.t.a t.c.t.n t.c.t.c,.bool t.c.l.s,.slice t.c.l.a t.c.l.n t.c.l.c,.int .u16 t.m.x,.int .u16 t.m.y,.int .u16 t.m.z,.int .u16 t.m.t]] w _;go_enter Tryz.func45,Tryz.ntmps45
 go_upto_region 1 with (fail)
 rw[show w.alloc (.cells #[.bool t.c.t.s,.slice t.c.t.a t.c.t.n t.c.t.c,.bool t.c.l.s,.slice t.c.l.a t.c.l.n t.c.l.c,.int .u16 t.m.x,.int .u16 t.m.y,.int .u16 t.m.z,.int .u16 t.m.t] 71)=V from HV.o.symm];have c0:=B3.o.ce 0;have c1:=B3.o.ce 1;have c2:=B3.o.ce 2;have c3:=B3.o.ce 3;go_wp2_with fail
 refine K.o.mono ?_;rintro e w1 ⟨⟨r,rfl⟩,h⟩;have H:=qh h;clear h c0 c1 c2 c3;go_wp2_with fail
 (try simp only[Exit.inBlock,Exit.then])
 refine bodyPost_end (results_none rfl _ _ _) rfl ?_;exact⟨⟨_,rfl⟩,H.o.1,HA.o.trans H.o.2⟩
theorem BkS.poly {w:World} {b base q:Nat} {L M:List HL} (h:BkS w b base q L M) (x:PV) (ts:List TV) (hr:RT w x.a ts) (hn:ts.length=x.n) (hfar:∀ p,x.a=some p->p.block<base) (hk:L.length+2*x.n<=29990) (hq:q+2*x.n<=59990) (hm:M.length<=30000) :
  Calls Tryz.prog 23 #[.pointer (some ⟨b,0,none⟩),x.v] w (Vg b base (q+2*x.n+1) (L++Ql ts q) (M++[⟨x.a,x.n,x.c,q+2*x.n⟩]) w):=by
 obtain⟨xa,xn,xc⟩:=x;have HS:=qh h;have HR:=qh (show RT w xa ts from hr);have HN:=qh (show ts.length=xn from hn);have HF:=qh hfar;have HK:=qh (show L.length+2*xn<=29990 from hk);have HQ:=qh (show q+2*xn<=59990 from hq);have HM:=qh hm;clear h hr hn hfar hk hq hm;change Calls Tryz.prog 23 #[.pointer (some ⟨b,0,none⟩),.slice xa xn xc] w _;go_enter Tryz.func23,Tryz.ntmps23;go_wp2_with fail
 go_loopw [4] (fun i wr=>∃ j:Nat,j<=xn/\i=.int .i64 j/\BkS wr b base (q+2*j) (L++Ql (ts.take j) q) M/\Qy base w wr) (fun i _=>xn-(intOf i).toNat)
 case atStart=>exact⟨0,Nat.zero_le _,rfl,by simpa[Ql] using HS.o,Qy.refl _ _⟩
 case round =>
  obtain⟨j,hj,rfl,hs,hkb⟩:=hrel;have HJ:=qh hj;have HS:=qh hs;have KB:=qh hkb;clear hj hs hkb;by_cases hjn:j<xn
  ·have HJN:=qh hjn
   have hlt:(j:Int)<(xn:Int):=by omega
   obtain⟨t,ht⟩:∃ t,ts[j]?=some t:=⟨_,List.getElem?_eq_getElem (by rw[HN.o];exact hjn)⟩;obtain⟨pb,po,rfl,hre⟩:=HR.o.one (fun e=>by rw[e] at ht;simp at ht);have HT:=qh ht;have E1:=qh (RE.QE (hre j t ht) KB.o (HF.o _ rfl));have ek:IntKind.i64.wrap ((j:Int)+1)=(j:Int)+1:=IntWalk.i64_in _ (by have:=HJN.o;have:=HK.o;omega)
   have hll:(ts.take j).length=j:=by rw[List.length_take,HN.o];omega
   have HLL:=qh hll;have CT:=qh (show Calls Tryz.prog 45 #[.pointer (some ⟨b,0,none⟩),.agg #[.bool t.c.t.s,.slice t.c.t.a t.c.t.n t.c.t.c,.bool t.c.l.s,.slice t.c.l.a t.c.l.n t.c.l.c,.int .u16 t.m.x,.int .u16 t.m.y,.int .u16 t.m.z,.int .u16 t.m.t]] wr _ from HS.o.term (by rw[List.length_append,Zi,hll];have:=HJN.o;have:=HK.o;omega) (by have:=HJN.o;have:=HQ.o;omega) t);obtain⟨c0,c1,c2,c3,c4,c5,c6,c7⟩:=E1.o.eight;clear hjn ht hre hll;go_wp2_with fail
   with_reducible refine CT.o.mono ?_
   rintro e w1 ⟨⟨r,rfl⟩,hs,hk⟩
   have HS2:=qh (show BkS w1 b base (q+2*(j+1)) (L++Ql (ts.take (j+1)) q) M by
    rw[List.take_add_one,HT.o];show BkS w1 b base (q+2*(j+1)) (L++Ql (ts.take j++[t]) q) M;rw[YG,HLL.o,<- List.append_assoc,<- List.append_assoc]
    exact hs)
   have KB:=qh (KB.o.trans hk);clear hs hk CT c0 c1 c2 c3 c4 c5 c6 c7;go_wp2_with fail
   go_roundw
   case rel=>exact⟨j+1,HJN.o,rfl,HS2.o,KB.o⟩
   case measure=>simp[intOf];have:=HJN.o;omega
  ·have hge:¬((j:Int)<(xn:Int)):=by omega
   obtain rfl:j=xn:=by have:=HJ.o;omega
   have HAL:=qh (show ts.take j=ts from List.take_of_length_le (by rw[HN.o];exact zj));have HS2:=qh (show BkS wr b base (q+2*j) (L++Ql ts q) M by rw[<- HAL.o];exact HS.o);have K:=qh (HS2.o.keepT HM.o (by have:=HQ.o;omega) xa j xc);clear hjn;go_wp2_with fail
   refine K.o.mono ?_;rintro e w1 ⟨⟨r,rfl⟩,h⟩;have H:=qh h;clear h;go_wp2_with fail
   (try simp only[Exit.inBlock,Exit.then])
   refine bodyPost_end (results_none rfl _ _ _) rfl ?_;exact⟨⟨_,rfl⟩,H.o.1,KB.o.trans H.o.2⟩
end Book
namespace Pol
open Go.RowKit Go.Sort Limb
def moF (m:Mo):Nat->Int:=fun i=>((m.at i:Nat):Int)
theorem ZM {m:Mo} (h:m.Small):Mono.Small (moF m):=fun i _=>⟨Int.natCast_nonneg _,by have:=at_small h i;unfold moF;omega⟩
def UW (o:Int) (m:Mo):Int:=Mono.KO o (moF m)
theorem jc4 {a b:Int}:Mono.Jv a b>0↔b<a:=by
 rcases Int.lt_trichotomy a b with h | h | h
 ·rw[Mono.JK h];omega
 ·rw[Mono.JX h];omega
 ·rw[Mono.JO h];omega
def Yb (w:World) (b:Nat) (v0 v1 v2 v3:Value):World:=(((w.setCell ⟨b,0,none⟩ v0).setCell ⟨b,1,none⟩ v1).setCell ⟨b,2,none⟩ v2).setCell ⟨b,3,none⟩ v3
theorem QN {w:World} {b:Nat} {t:TypeId} {u0 u1 u2 u3:Value} (h:Bxs w b t [u0,u1,u2,u3]) (v0 v1 v2 v3:Value):Bxs (Yb w b v0 v1 v2 v3) b t [v0,v1,v2,v3]:=(((h.put 0 v0).put 1 v1).put 2 v2).put 3 v3
theorem jef {w:World} {b g:Nat} {t:TypeId} {l:List Value} (h:Bxs w g t l) (hn:g≠b) (v0 v1 v2 v3:Value):Bxs (Yb w b v0 v1 v2 v3) g t l:=(((h.other (a:=⟨b,0,none⟩) hn v0).other (a:=⟨b,1,none⟩) hn v1).other (a:=⟨b,2,none⟩) hn v2).other (a:=⟨b,3,none⟩) hn v3
theorem ja0 {w:World} {lo b:Nat} {x:FV} {q:Rat} {t:TypeId} {u0 u1 u2 u3:Value} (h:DF w lo x q) (hb:Bxs w b t [u0,u1,u2,u3]) (ht:160≠t) (v0 v1 v2 v3:Value):DF (Yb w b v0 v1 v2 v3) lo x q :=
 (((h.Jt hb ht 0 v0).Jt (hb.put 0 v0) ht 1 v1).Jt ((hb.put 0 v0).put 1 v1) ht 2 v2).Jt (((hb.put 0 v0).put 1 v1).put 2 v2) ht 3 v3
theorem put4_kf {w:World} {b:Nat} {x:FV} {q:Rat} {t:TypeId} {u0 u1 u2 u3:Value} (h:KF w x q) (hb:Bxs w b t [u0,u1,u2,u3]) (n0:XR u0=true) (n1:XR u1=true) (n2:XR u2=true) (n3:XR u3=true) {v0 v1 v2 v3:Value} (m0:XR v0=true) (m1:XR v1=true) (m2:XR v2=true):KF (Yb w b v0 v1 v2 v3) x q :=
 (((h.Jt hb (by simp[n0,n1,n2,n3]) 0 v0).Jt (hb.put 0 v0) (by simp[m0,n1,n2,n3]) 1 v1).Jt ((hb.put 0 v0).put 1 v1) (by simp[m0,m1,n2,n3]) 2 v2).Jt (((hb.put 0 v0).put 1 v1).put 2 v2) (by simp[m0,m1,m2,n3]) 3 v3
theorem Qg {B:Nat} {u w:World} {b:Nat} (h:Below B u w) (hb:B<=b) (v0 v1 v2 v3:Value):Below B u (Yb w b v0 v1 v2 v3):=(((h.setCell hb v0).setCell hb v1).setCell hb v2).setCell hb v3
theorem Vu {q:Rat} {k:Nat} (h:LQ q k):∀ m:Nat,LQ (q ^ m) (m*k+1)
 | 0=>by
  have h1:LQ ((1:Int):Rat) 1:=by constructor <;> decide +kernel
  rw[Rat.pow_zero,Nat.zero_mul,Nat.zero_add]
  exact h1
 | m+1=>by
  rw[Rat.pow_succ];exact((Vu h m).ls.mul h.ls).lq (by rw[Nat.add_mul];omega) (by rw[Nat.add_mul];omega)
structure EF (w:World) (lo:Nat) (x:FV) (q:Rat):Prop where
 t:DN w lo x.t q.num
 l:DN w lo x.l (q.den:Int)
theorem EF.below {w w':World} {lo:Nat} {x:FV} {q:Rat} (h:EF w lo x q) (hb:Below w.heap.size w w'):EF w' lo x q:=⟨h.t.below hb,h.l.below hb⟩
theorem EF.mono {w:World} {lo lo':Nat} {x:FV} {q:Rat} (h:EF w lo x q) (hl:lo'<=lo):EF w lo' x q:=⟨h.t.mono hl,h.l.mono hl⟩
theorem EF.k {w:World} {lo:Nat} {x:FV} {q:Rat} (h:EF w lo x q):KF w x q:=⟨h.t.k,h.l.k⟩
theorem EF.kept {w w':World} {lo:Nat} {x:FV} {q:Rat} (h:EF w lo x q) (hk:∀ b,FV.blk x b->w'.heap[b]?=w.heap[b]?):EF w' lo x q:=⟨h.t.kept fun b hb=>hk b (Or.inl hb),h.l.kept fun b hb=>hk b (Or.inr hb)⟩
theorem EF.QK {w:World} {lo:Nat} {x:FV} {q:Rat} (h:EF w lo x q):∀ b,FV.blk x b->lo<=b/\b<w.heap.size:=fun b hb=>hb.elim (h.t.QK b) (h.l.QK b)
theorem EF.Jt {w:World} {lo:Nat} {x:FV} {q:Rat} (h:EF w lo x q) {g:Nat} {t:TypeId} {l:List Value} (hb:Bxs w g t l) (ht:160≠t) (i:Nat) (v:Value):EF (w.setCell ⟨g,i,none⟩ v) lo x q:=⟨h.t.Jt hb ht i v,h.l.Jt hb ht i v⟩
def RKV (w:World) (q:Rat) (e:Ending) (w':World):Prop:=∃ y:FV,e=.returned y.v/\EF w' w.heap.size y q/\Below w.heap.size w w'
theorem Vi.rkv {w w':World} {q:Rat} {e:Ending} (h:Vi w q.num (q.den:Int) e w'):RKV w q e w':=by
 obtain⟨a1,c1,a2,c2,rfl,o1,o2,hb⟩:=h;exact⟨⟨⟨_,a1,_,c1⟩,⟨_,a2,_,c2⟩⟩,rfl,⟨⟨rfl,rfl,o1⟩,⟨rfl,rfl,o2⟩⟩,hb⟩
theorem rmulV {w:World} {x y:FV} {p q:Rat} (h1:AF w x p) (b1:LF x 900000) (h2:AF w y q) (b2:LF y 900000):Calls Tryz.prog 81 #[x.v,y.v] w (RKV w (p*q)):=by
 obtain⟨o1,o2,r1,r2,e1⟩:=h1.ex;obtain⟨o3,o4,r3,r4,e2⟩:=h2.ex
 exact(jg4 x.t.s x.t.a x.t.n x.t.c o1 x.l.s x.l.a x.l.n x.l.c o2 y.t.s y.t.a y.t.n y.t.c o3 y.l.s y.l.a y.l.n y.l.c o4 w p q e1.symm e2.symm r1 (by omega) h1.l1 r2 (by omega) h1.l2 r3 (by omega) h2.l1 r4 (by omega) h2.l2).mono fun _ _ h=>Vi.rkv h
theorem Kt {w:World} {x:FV} {p:Rat} (h1:AF w x p) (b1:LF x 900000):Calls Tryz.prog 77 #[x.v] w fun e w'=>e=.returned (.int .i64 (Jv p.num 0))/\Below w.heap.size w w':=by
 obtain⟨o1,o2,r1,r2,e1⟩:=h1.ex;exact jd6 x.t.s x.t.a x.t.n x.t.c o1 x.l.s x.l.a x.l.n x.l.c o2 w p e1.symm r1 (by omega) h1.l1 r2 (by omega) h1.l2
theorem rofV (n:Int) (w:World) (h1:-9223372036854775808<=n) (h2:n<=9223372036854775807):Calls Tryz.prog 76 #[.int .i64 n] w (RKV w (n:Rat)) :=
 (jcu n w h1 h2).mono fun _ _ h=>Vi.rkv (q:=(n:Rat)) (by rw[Rat.num_intCast,Rat.den_intCast];exact h)
open Classical in
theorem Vv {w:World} {x:FV} {p:Rat} (h1:KF w x p) (b1:LF x 900000):Calls Tryz.prog 128 #[x.v] w fun e w'=>e=.returned (.bool true)/\Below w.heap.size w w':=by
 have h:=QS x.t.s x.t.a x.t.n x.t.c _ x.l.s x.l.a x.l.n x.l.c _ w h1.t.rd (by omega) h1.t.le h1.l.rd (by omega) h1.l.le;rw[decide_eq_true (by rw[h1.t.s,h1.t.n,h1.l.s,h1.l.n];exact Xw p)] at h;exact h
open Classical in
theorem rcheckVB {w:World} {x:FV} (h1:BF w x) (b1:LF x 900000):Calls Tryz.prog 128 #[x.v] w fun e w'=>e=.returned (.bool false)/\Below w.heap.size w w':=by
 obtain⟨o1,o2,r1,r2,hk⟩:=h1.ex;have h:=QS x.t.s x.t.a x.t.n x.t.c o1 x.l.s x.l.a x.l.n x.l.c o2 w r1 (by omega) h1.l1 r2 (by omega) h1.l2;rw[zo hk] at h;exact h
theorem rcmpV (o:Int) (a b:Mo) (w:World) (ha:a.Small) (hb:b.Small):Calls Tryz.prog 151 #[.int .u8 o,Mo.v a,Mo.v b] w fun e w'=>e=.returned (.int .i64 (Mono.Jv (UW o a) (UW o b)))/\Below w.heap.size w w':=by
 have h:=Mono.rcmp_any o (moF a) (moF b) w (ZM ha) (ZM hb);rw[Mono.cmp_key (o:=o) (ZM ha) (ZM hb)] at h;exact h
theorem jfx {a b:Mo} (ha:a.Small) (hb:b.Small):a.lt b↔UW 0 a<UW 0 b:=by
 have hk:∀ m:Mo,UW 0 m=(m.x:Int)*281474976710656+(m.y:Int)*4294967296+(m.z:Int)*65536+(m.t:Int):=fun m=>by
  unfold UW Mono.KO;rw[if_neg (by decide),if_neg (by decide)];rfl
 obtain⟨a1,a2,a3,a4⟩:=ha;obtain⟨b1,b2,b3,b4⟩:=hb;rw[hk,hk];unfold Mo.lt;omega
structure K4 (w:World) (x0 x1 x2 x3:FV) (l:Nat->Rat):Prop where
 k0:KF w x0 (l 0)
 k1:KF w x1 (l 1)
 k2:KF w x2 (l 2)
 k3:KF w x3 (l 3)
theorem Vw (x:PV) (L:List TO) (k0:Nat) (w:World) (h:UK w x L) (hn:x.n<=1000000000) (hk:k0<=L.length) (hok:∀ i,i<k0->Ok1 L i) (hbad:k0<L.length->¬Ok1 L k0) :
  Calls Tryz.prog 54 #[x.v] w fun e w'=>e=.returned (.bool (decide (k0=L.length)))/\Below w.heap.size w w':=by
 obtain⟨xa,xn,xc⟩:=x;have HLN:=qh (show L.length=xn from h.2.1);have HN:=qh (show xn<=1000000000 from hn);have HR:=qh h;have HK0:=qh hk;have HOK:=qh hok;have HBAD:=qh hbad;have KG:=qh (Below.refl w.heap.size w);obtain⟨bv,hbv⟩:∃ b,b=decide (k0=L.length):=⟨_,rfl⟩;have HBV:=qh hbv;rw[<- hbv];clear h hk hok hbad hn hbv;change Calls Tryz.prog 54 #[.slice xa xn xc] w _;go_enter Tryz.func54,Tryz.ntmps54;go_wp2_with fail
 go_loopw [3] (fun i wr=>∃ k:Nat,k<=k0/\i=.int .i64 k/\Below w.heap.size w wr) (fun i _=>xn-(intOf i).toNat)
 case atStart=>exact⟨0,Nat.zero_le _,rfl,KG.o⟩
 case round =>
  obtain⟨k,hkk,rfl,hb0⟩:=hrel;have KG:=qh hb0;have HKK0:=qh hkk;clear hb0 hkk;by_cases hkl:k<xn
  ·have HKL:=qh hkl
   have hkl2:(k:Int)<(xn:Int):=by omega
   obtain⟨pb,po,rfl,hre⟩:=(HR.o.below KG.o).1.one (fun h=>by have h1:=HLN.o;rw[List.map_eq_nil_iff] at h;rw[h] at h1;simp at h1;omega);obtain⟨e,he⟩:∃ e,L[k]?=some e:=⟨_,List.getElem?_eq_getElem (by rw[HLN.o];exact hkl)⟩;obtain⟨t,o⟩:=e;have E1:=qh (hre k t (by rw[List.getElem?_map,he];rfl));have HRE:=qh hre;have HE:=qh he;have HTO:=qh ((HR.o.below KG.o).2.2.2.1 _ (List.mem_of_getElem? he));have HLF:=qh (show LF t.c 900000 from HR.o.2.2.2.2.2 _ (List.mem_of_getElem? he));have HS1:=qh (show t.m.Small from HR.o.2.2.2.2.1 _ (List.mem_of_getElem? he));clear hre he hkl
   cases o with
   | none =>
    have NF:=qh (show BF wr t.c from HTO.o)
    have HEND:=qh (show false=bv by
     rw[HBV.o];refine(zo fun hh=>?_).symm;obtain⟨e',q',h1,h2,-⟩:=HOK.o k (by rw[hh,HLN.o];exact HKL.o);rw[HE.o] at h1
     cases h1
     cases h2)
    clear HTO
    go_upto_region 4 with (fail)
    refine FS.Jc 34 [] (FS.JM [(5,FS.Sp.know (.bool false))])
     (fun w'=>Below wr.heap.size wr w') (by kernel_rfl) (by kernel_rfl) (by kernel_rfl)
     (FS.Jd (FS.Sp.Jl _ _) (FS.Jk)) (fun _ _ h hb=>h.trans (hb.mono h.size)) (zk.drew) ?_
    simp only[zu,zi,ze,zx,zy,zv,zw]
    iterate 5
     refine FS.Jb rfl rfl rfl ?_ (fun w' hw'=>?_) ?_;rotate_left
     ·have hb':=hw'.world;have hn:=HKL.o;obtain⟨hs0,hs1,hs2,hs3,hs4,hs5,hs6,hs7⟩:=(E1.o.below hb').eight;clear hw';go_simp
      try rfl
     conv=>arg 10;simp only[Act.put,zq0,zq1,zq2]
    refine FS.Jf rfl rfl rfl (fun w' hw'=>?_) ?_
    ·have hb':=hw'.world;refine FS.Jn (FS.PK (.bool false)) ?_ (fun _ _ h=>h.post);go_simp;have CT:=(show Calls Tryz.prog 128 #[.agg #[.bool t.c.t.s,.slice t.c.t.a t.c.t.n t.c.t.c,.bool t.c.l.s,.slice t.c.l.a t.c.l.n t.c.l.c]] w' _ from rcheckVB (x:=t.c) (NF.o.below hb') HLF.o);refine CT.mono ?_;rintro e w'' ⟨rfl,hb⟩;exact⟨_,rfl,rfl,hb⟩
    rintro _ rfl
    conv=>arg 10;simp only[Act.put,zq0,zq1,zq2]
    iterate 2
     refine FS.Jb rfl rfl rfl ?_ (fun w' hw'=>?_) ?_;rotate_left
     ·have hb':=hw'.world;skip;clear hw';go_simp
      try rfl
     conv=>arg 10;simp only[Act.put,zq0,zq1,zq2]
    iterate 7
     refine FS.QA (by rfl) rfl ?_
     conv=>arg 10;simp only[Act.put,zq0,zq1,zq2]
    iterate 2
     refine FS.Jb rfl rfl rfl ?_ (fun w' hw'=>?_) ?_;rotate_left
     ·have hb':=hw'.world;skip;clear hw';go_simp
      try rfl
     conv=>arg 10;simp only[Act.put,zq0,zq1,zq2]
    iterate 17
     refine FS.QA (by rfl) rfl ?_
     conv=>arg 10;simp only[Act.put,zq0,zq1,zq2]
    refine FS.Jo (fun w101 hb hF=>?_);clear hF;have KG:=qk KG hb;clear hb;go_wp2_with fail
    go_ret
    exact⟨by rw[HEND.o] <;> rfl,KG.o⟩
   | some q =>
    have NF:=qh (show KF wr t.c q from HTO.o);by_cases hq:q=0
    ·have HSG:=qh (V4.2 hq)
     have HEND:=qh (show false=bv by
      rw[HBV.o];refine(zo fun hh=>?_).symm;obtain⟨e',q',h1,h2,h3,-⟩:=HOK.o k (by rw[hh,HLN.o];exact HKL.o);rw[HE.o] at h1
      cases h1
      cases h2
      exact h3 hq)
     clear HTO hq
     go_upto_region 4 with (fail)
     refine FS.Jc 34 [] (FS.JM [(5,FS.Sp.know (.bool true)),(13,FS.Sp.know (.int .i64 0))])
      (fun w'=>Below wr.heap.size wr w') (by kernel_rfl) (by kernel_rfl) (by kernel_rfl)
      (FS.Jd (FS.Sp.Jl _ _) (FS.Jd (FS.Sp.Jl _ _) (FS.Jk))) (fun _ _ h hb=>h.trans (hb.mono h.size)) (zk.drew) ?_
     simp only[zu,zi,ze,zx,zy,zv,zw]
     iterate 5
      refine FS.Jb rfl rfl rfl ?_ (fun w' hw'=>?_) ?_;rotate_left
      ·have hb':=hw'.world;have hn:=HKL.o;obtain⟨hs0,hs1,hs2,hs3,hs4,hs5,hs6,hs7⟩:=(E1.o.below hb').eight;clear hw';go_simp
       try rfl
      conv=>arg 10;simp only[Act.put,zq0,zq1,zq2]
     refine FS.Jf rfl rfl rfl (fun w' hw'=>?_) ?_
     ·have hb':=hw'.world;refine FS.Jn (FS.PK (.bool true)) ?_ (fun _ _ h=>h.post);go_simp;have CT:=(show Calls Tryz.prog 128 #[.agg #[.bool t.c.t.s,.slice t.c.t.a t.c.t.n t.c.t.c,.bool t.c.l.s,.slice t.c.l.a t.c.l.n t.c.l.c]] w' _ from Vv (x:=t.c) (NF.o.below hb') HLF.o);refine CT.mono ?_;rintro e w'' ⟨rfl,hb⟩;exact⟨_,rfl,rfl,hb⟩
     rintro _ rfl
     conv=>arg 10;simp only[Act.put,zq0,zq1,zq2]
     iterate 2
      refine FS.Jb rfl rfl rfl ?_ (fun w' hw'=>?_) ?_;rotate_left
      ·have hb':=hw'.world;skip;clear hw';go_simp
       try rfl
      conv=>arg 10;simp only[Act.put,zq0,zq1,zq2]
     iterate 5
      refine FS.Jm (by rfl) rfl rfl ?_ (fun w' hw'=>?_) ?_;rotate_left
      ·have hb':=hw'.world;have hn:=HKL.o;obtain⟨hs0,hs1,hs2,hs3,hs4,hs5,hs6,hs7⟩:=(E1.o.below hb').eight;clear hw';go_simp
       try rfl
      conv=>arg 10;simp only[Act.put,zq0,zq1,zq2]
     refine FS.JC (by rfl) rfl rfl (fun w' hw'=>?_) ?_
     ·have hb':=hw'.world;refine FS.Jn (FS.PK (.int .i64 0)) ?_ (fun _ _ h=>h.post);go_simp;have CT:=(show Calls Tryz.prog 77 #[.agg #[.bool t.c.t.s,.slice t.c.t.a t.c.t.n t.c.t.c,.bool t.c.l.s,.slice t.c.l.a t.c.l.n t.c.l.c]] w' _ from Kt (x:=t.c) (NF.o.below hb').any HLF.o);rw[show Jv q.num 0=0 from HSG.o] at CT;refine CT.mono ?_;rintro e w'' ⟨rfl,hb⟩;exact⟨_,rfl,rfl,hb⟩
     rintro _ rfl
     conv=>arg 10;simp only[Act.put,zq0,zq1,zq2]
     refine FS.Jm (by rfl) rfl rfl ?_ (fun w' hw'=>?_) ?_;rotate_left
     ·have hb':=hw'.world;skip;clear hw';go_simp
      try rfl
     conv=>arg 10;simp only[Act.put,zq0,zq1,zq2]
     iterate 2
      refine FS.Jb rfl rfl rfl ?_ (fun w' hw'=>?_) ?_;rotate_left
      ·have hb':=hw'.world;skip;clear hw';go_simp
       try rfl
      conv=>arg 10;simp only[Act.put,zq0,zq1,zq2]
     iterate 17
      refine FS.QA (by rfl) rfl ?_
      conv=>arg 10;simp only[Act.put,zq0,zq1,zq2]
     refine FS.Jo (fun w102 hb hF=>?_);clear hF;have KG:=qk KG hb;clear hb;go_wp2_with fail
     go_ret;exact⟨by rw[HEND.o] <;> rfl,KG.o⟩
    ·obtain⟨sg,hsg⟩:∃ c,c=Jv q.num 0:=⟨_,rfl⟩;have HSG:=qh hsg.symm
     have gsg:(sg==0)=false:=by
      rw[hsg]
      simpa using fun h=>hq (V4.1 h)
     have HQ:=qh hq;clear hsg hq HTO
     rcases Nat.eq_zero_or_pos k with h0 | h0
     ·have HKK:=qh (show k<k0 from Nat.lt_of_le_of_ne HKK0.o fun hh=>HBAD.o (by rw[<- hh,HLN.o];exact HKL.o) (by rw[<- hh];exact⟨_,q,HE.o,rfl,HQ.o,fun h=>by omega⟩))
      have gk2:¬(0<(k:Int)):=by omega
      have gk3:¬(0<k):=by omega
      clear h0
      go_upto_region 4 with (fail)
      refine FS.Jc 34 [] (FS.JM [(5,FS.Sp.know (.bool true)),(13,FS.Sp.know (.int .i64 sg))])
       (fun w'=>Below wr.heap.size wr w') (by kernel_rfl) (by kernel_rfl) (by kernel_rfl)
       (FS.Jd (FS.Sp.Jl _ _) (FS.Jd (FS.Sp.Jl _ _) (FS.Jk))) (fun _ _ h hb=>h.trans (hb.mono h.size)) (zk.drew) ?_
      simp only[zu,zi,ze,zx,zy,zv,zw]
      iterate 5
       refine FS.Jb rfl rfl rfl ?_ (fun w' hw'=>?_) ?_;rotate_left
       ·have hb':=hw'.world;have hn:=HKL.o;obtain⟨hs0,hs1,hs2,hs3,hs4,hs5,hs6,hs7⟩:=(E1.o.below hb').eight;clear hw';go_simp
        try rfl
       conv=>arg 10;simp only[Act.put,zq0,zq1,zq2]
      refine FS.Jf rfl rfl rfl (fun w' hw'=>?_) ?_
      ·have hb':=hw'.world;refine FS.Jn (FS.PK (.bool true)) ?_ (fun _ _ h=>h.post);go_simp;have CT:=(show Calls Tryz.prog 128 #[.agg #[.bool t.c.t.s,.slice t.c.t.a t.c.t.n t.c.t.c,.bool t.c.l.s,.slice t.c.l.a t.c.l.n t.c.l.c]] w' _ from Vv (x:=t.c) (NF.o.below hb') HLF.o);refine CT.mono ?_;rintro e w'' ⟨rfl,hb⟩;exact⟨_,rfl,rfl,hb⟩
      rintro _ rfl
      conv=>arg 10;simp only[Act.put,zq0,zq1,zq2]
      iterate 2
       refine FS.Jb rfl rfl rfl ?_ (fun w' hw'=>?_) ?_;rotate_left
       ·have hb':=hw'.world;skip;clear hw';go_simp
        try rfl
       conv=>arg 10;simp only[Act.put,zq0,zq1,zq2]
      iterate 5
       refine FS.Jm (by rfl) rfl rfl ?_ (fun w' hw'=>?_) ?_;rotate_left
       ·have hb':=hw'.world;have hn:=HKL.o;obtain⟨hs0,hs1,hs2,hs3,hs4,hs5,hs6,hs7⟩:=(E1.o.below hb').eight;clear hw';go_simp
        try rfl
       conv=>arg 10;simp only[Act.put,zq0,zq1,zq2]
      refine FS.JC (by rfl) rfl rfl (fun w' hw'=>?_) ?_
      ·have hb':=hw'.world;refine FS.Jn (FS.PK (.int .i64 sg)) ?_ (fun _ _ h=>h.post);go_simp;have CT:=(show Calls Tryz.prog 77 #[.agg #[.bool t.c.t.s,.slice t.c.t.a t.c.t.n t.c.t.c,.bool t.c.l.s,.slice t.c.l.a t.c.l.n t.c.l.c]] w' _ from Kt (x:=t.c) (NF.o.below hb').any HLF.o);rw[show Jv q.num 0=sg from HSG.o] at CT;refine CT.mono ?_;rintro e w'' ⟨rfl,hb⟩;exact⟨_,rfl,rfl,hb⟩
      rintro _ rfl
      conv=>arg 10;simp only[Act.put,zq0,zq1,zq2]
      refine FS.Jm (by rfl) rfl rfl ?_ (fun w' hw'=>?_) ?_;rotate_left
      ·have hb':=hw'.world;skip;clear hw';go_simp
       try rfl
      conv=>arg 10;simp only[Act.put,zq0,zq1,zq2]
      iterate 2
       refine FS.Jb rfl rfl rfl ?_ (fun w' hw'=>?_) ?_;rotate_left
       ·have hb':=hw'.world;skip;clear hw';go_simp
        try rfl
       conv=>arg 10;simp only[Act.put,zq0,zq1,zq2]
      iterate 3
       refine FS.Jm (by rfl) rfl rfl ?_ (fun w' hw'=>?_) ?_;rotate_left
       ·have hb':=hw'.world;skip;clear hw';go_simp
        try rfl
       conv=>arg 10;simp only[Act.put,zq0,zq1,zq2]
      iterate 13
       refine FS.QA (by rfl) rfl ?_
       conv=>arg 10;simp only[Act.put,zq0,zq1,zq2]
      refine FS.Jm (by rfl) rfl rfl ?_ (fun w' hw'=>?_) ?_;rotate_left
      ·have hb':=hw'.world;skip;clear hw';go_simp
       try rfl
      conv=>arg 10;simp only[Act.put,zq0,zq1,zq2]
      refine FS.Jo (fun w103 hb hF=>?_);clear hF;have KG:=qk KG hb;clear hb;have ek1:IntKind.i64.wrap ((k:Int)+1)=(k:Int)+1:=IntWalk.i64_in _ (by have:=HKL.o;have:=HN.o;omega);go_wp2_with fail
      go_roundw
      case rel=>exact⟨k+1,by have:=HKK.o;omega,rfl,KG.o⟩
      case measure=>simp[intOf];have:=HKL.o;omega
     ·obtain⟨j,hj⟩:∃ j,k=j+1:=⟨k-1,by omega⟩
      have gk2:0<(k:Int):=by omega
      have gk3:0<k:=by omega
      have EJW:=qh (show IntKind.i64.wrap ((k:Int)-1)=(j:Int) by have:=HKL.o;have:=HN.o;rw[IntWalk.i64_in _ (by omega)];omega);have HJN:=qh (show j<xn by have:=HKL.o;omega);have HJK:=qh hj;obtain⟨d,hd⟩:∃ d,L[j]?=some d:=⟨_,List.getElem?_eq_getElem (by rw[HLN.o];exact HJN.o)⟩;obtain⟨tj,oj⟩:=d;have HD:=qh hd;have EJ:=qh (HRE.o j tj (by rw[List.getElem?_map,hd];rfl));have HS2:=qh (show tj.m.Small from HR.o.2.2.2.2.1 _ (List.mem_of_getElem? hd));obtain⟨fv,hfv⟩:∃ c,c=Mono.Jv (UW 0 tj.m) (UW 0 t.m):=⟨_,rfl⟩;have HFV:=qh hfv.symm;clear hd h0 hj;by_cases hlt:t.m.lt tj.m
      ·have gf2:¬(fv<=0):=by rw[hfv];exact Int.not_le.2 (jc4.2 ((jfx HS1.o HS2.o).1 hlt))
       have HKK:=qh (show k<k0 from Nat.lt_of_le_of_ne HKK0.o fun hh=>HBAD.o (by rw[<- hh,HLN.o];exact HKL.o) (by rw[<- hh];exact⟨_,q,HE.o,rfl,HQ.o,fun _=>⟨_,by rw[HJK.o];exact HD.o,hlt⟩⟩));clear hfv hlt
       go_upto_region 4 with (fail)
       refine FS.Jc 34 [] (FS.JM [(5,FS.Sp.know (.bool true)),(13,FS.Sp.know (.int .i64 sg)),(31,FS.Sp.know (.int .i64 fv))])
        (fun w'=>Below wr.heap.size wr w') (by kernel_rfl) (by kernel_rfl) (by kernel_rfl)
        (FS.Jd (FS.Sp.Jl _ _) (FS.Jd (FS.Sp.Jl _ _) (FS.Jd (FS.Sp.Jl _ _) (FS.Jk)))) (fun _ _ h hb=>h.trans (hb.mono h.size)) (zk.drew) ?_
       simp only[zu,zi,ze,zx,zy,zv,zw]
       iterate 5
        refine FS.Jb rfl rfl rfl ?_ (fun w' hw'=>?_) ?_;rotate_left
        ·have hb':=hw'.world;have hn:=HKL.o;obtain⟨hs0,hs1,hs2,hs3,hs4,hs5,hs6,hs7⟩:=(E1.o.below hb').eight;clear hw';go_simp
         try rfl
        conv=>arg 10;simp only[Act.put,zq0,zq1,zq2]
       refine FS.Jf rfl rfl rfl (fun w' hw'=>?_) ?_
       ·have hb':=hw'.world;refine FS.Jn (FS.PK (.bool true)) ?_ (fun _ _ h=>h.post);go_simp;have CT:=(show Calls Tryz.prog 128 #[.agg #[.bool t.c.t.s,.slice t.c.t.a t.c.t.n t.c.t.c,.bool t.c.l.s,.slice t.c.l.a t.c.l.n t.c.l.c]] w' _ from Vv (x:=t.c) (NF.o.below hb') HLF.o);refine CT.mono ?_;rintro e w'' ⟨rfl,hb⟩;exact⟨_,rfl,rfl,hb⟩
       rintro _ rfl
       conv=>arg 10;simp only[Act.put,zq0,zq1,zq2]
       iterate 2
        refine FS.Jb rfl rfl rfl ?_ (fun w' hw'=>?_) ?_;rotate_left
        ·have hb':=hw'.world;skip;clear hw';go_simp
         try rfl
        conv=>arg 10;simp only[Act.put,zq0,zq1,zq2]
       iterate 5
        refine FS.Jm (by rfl) rfl rfl ?_ (fun w' hw'=>?_) ?_;rotate_left
        ·have hb':=hw'.world;have hn:=HKL.o;obtain⟨hs0,hs1,hs2,hs3,hs4,hs5,hs6,hs7⟩:=(E1.o.below hb').eight;clear hw';go_simp
         try rfl
        conv=>arg 10;simp only[Act.put,zq0,zq1,zq2]
       refine FS.JC (by rfl) rfl rfl (fun w' hw'=>?_) ?_
       ·have hb':=hw'.world;refine FS.Jn (FS.PK (.int .i64 sg)) ?_ (fun _ _ h=>h.post);go_simp;have CT:=(show Calls Tryz.prog 77 #[.agg #[.bool t.c.t.s,.slice t.c.t.a t.c.t.n t.c.t.c,.bool t.c.l.s,.slice t.c.l.a t.c.l.n t.c.l.c]] w' _ from Kt (x:=t.c) (NF.o.below hb').any HLF.o);rw[show Jv q.num 0=sg from HSG.o] at CT;refine CT.mono ?_;rintro e w'' ⟨rfl,hb⟩;exact⟨_,rfl,rfl,hb⟩
       rintro _ rfl
       conv=>arg 10;simp only[Act.put,zq0,zq1,zq2]
       refine FS.Jm (by rfl) rfl rfl ?_ (fun w' hw'=>?_) ?_;rotate_left
       ·have hb':=hw'.world;skip;clear hw';go_simp
        try rfl
       conv=>arg 10;simp only[Act.put,zq0,zq1,zq2]
       iterate 2
        refine FS.Jb rfl rfl rfl ?_ (fun w' hw'=>?_) ?_;rotate_left
        ·have hb':=hw'.world;skip;clear hw';go_simp
         try rfl
        conv=>arg 10;simp only[Act.put,zq0,zq1,zq2]
       iterate 14
        refine FS.Jm (by rfl) rfl rfl ?_ (fun w' hw'=>?_) ?_;rotate_left
        ·have hb':=hw'.world;have hj:=EJW.o;have hn:=HJN.o;obtain⟨hs0,hs1,hs2,hs3,hs4,hs5,hs6,hs7⟩:=(EJ.o.below hb').eight;have hn:=HKL.o;obtain⟨hs0,hs1,hs2,hs3,hs4,hs5,hs6,hs7⟩:=(E1.o.below hb').eight;clear hw';go_simp
         try rfl
        conv=>arg 10;simp only[Act.put,zq0,zq1,zq2]
       refine FS.JC (by rfl) rfl rfl (fun w' hw'=>?_) ?_
       ·have hb':=hw'.world;refine FS.Jn (FS.PK (.int .i64 fv)) ?_ (fun _ _ h=>h.post);go_simp;have CT:=(show Calls Tryz.prog 151 #[.int .u8 0,.agg #[.int .u16 tj.m.x,.int .u16 tj.m.y,.int .u16 tj.m.z,.int .u16 tj.m.t],.agg #[.int .u16 t.m.x,.int .u16 t.m.y,.int .u16 t.m.z,.int .u16 t.m.t]] w' _ from rcmpV 0 tj.m t.m w' HS2.o HS1.o);rw[show Mono.Jv (UW 0 tj.m) (UW 0 t.m)=fv from HFV.o] at CT;refine CT.mono ?_;rintro e w'' ⟨rfl,hb⟩;exact⟨_,rfl,rfl,hb⟩
       rintro _ rfl
       conv=>arg 10;simp only[Act.put,zq0,zq1,zq2]
       iterate 2
        refine FS.Jm (by rfl) rfl rfl ?_ (fun w' hw'=>?_) ?_;rotate_left
        ·have hb':=hw'.world;skip;clear hw';go_simp
         try rfl
        conv=>arg 10;simp only[Act.put,zq0,zq1,zq2]
       refine FS.Jo (fun w104 hb hF=>?_);clear hF;have KG:=qk KG hb;clear hb;have ek1:IntKind.i64.wrap ((k:Int)+1)=(k:Int)+1:=IntWalk.i64_in _ (by have:=HKL.o;have:=HN.o;omega);go_wp2_with fail
       go_roundw
       case rel=>exact⟨k+1,by have:=HKK.o;omega,rfl,KG.o⟩
       case measure=>simp[intOf];have:=HKL.o;omega
      ·have gf2:fv<=0:=by rw[hfv];exact Int.not_lt.1 fun h=>hlt ((jfx HS1.o HS2.o).2 (jc4.1 h))
       have HEND:=qh (show false=bv by
        rw[HBV.o];refine(zo fun hh=>?_).symm;obtain⟨e',q',h1,h2,h3,h4⟩:=HOK.o k (by rw[hh,HLN.o];exact HKL.o);obtain⟨d',h5,h6⟩:=h4 (by have:=HJK.o;omega);rw[HE.o] at h1
        cases h1
        rw[show k-1=j by have:=HJK.o;omega,HD.o] at h5
        cases h5
        exact hlt h6)
       clear hfv hlt
       go_upto_region 4 with (fail)
       refine FS.Jc 34 [] (FS.JM [(5,FS.Sp.know (.bool true)),(13,FS.Sp.know (.int .i64 sg)),(31,FS.Sp.know (.int .i64 fv))])
        (fun w'=>Below wr.heap.size wr w') (by kernel_rfl) (by kernel_rfl) (by kernel_rfl)
        (FS.Jd (FS.Sp.Jl _ _) (FS.Jd (FS.Sp.Jl _ _) (FS.Jd (FS.Sp.Jl _ _) (FS.Jk)))) (fun _ _ h hb=>h.trans (hb.mono h.size)) (zk.drew) ?_
       simp only[zu,zi,ze,zx,zy,zv,zw]
       iterate 5
        refine FS.Jb rfl rfl rfl ?_ (fun w' hw'=>?_) ?_;rotate_left
        ·have hb':=hw'.world;have hn:=HKL.o;obtain⟨hs0,hs1,hs2,hs3,hs4,hs5,hs6,hs7⟩:=(E1.o.below hb').eight;clear hw';go_simp
         try rfl
        conv=>arg 10;simp only[Act.put,zq0,zq1,zq2]
       refine FS.Jf rfl rfl rfl (fun w' hw'=>?_) ?_
       ·have hb':=hw'.world;refine FS.Jn (FS.PK (.bool true)) ?_ (fun _ _ h=>h.post);go_simp;have CT:=(show Calls Tryz.prog 128 #[.agg #[.bool t.c.t.s,.slice t.c.t.a t.c.t.n t.c.t.c,.bool t.c.l.s,.slice t.c.l.a t.c.l.n t.c.l.c]] w' _ from Vv (x:=t.c) (NF.o.below hb') HLF.o);refine CT.mono ?_;rintro e w'' ⟨rfl,hb⟩;exact⟨_,rfl,rfl,hb⟩
       rintro _ rfl
       conv=>arg 10;simp only[Act.put,zq0,zq1,zq2]
       iterate 2
        refine FS.Jb rfl rfl rfl ?_ (fun w' hw'=>?_) ?_;rotate_left
        ·have hb':=hw'.world;skip;clear hw';go_simp
         try rfl
        conv=>arg 10;simp only[Act.put,zq0,zq1,zq2]
       iterate 5
        refine FS.Jm (by rfl) rfl rfl ?_ (fun w' hw'=>?_) ?_;rotate_left
        ·have hb':=hw'.world;have hn:=HKL.o;obtain⟨hs0,hs1,hs2,hs3,hs4,hs5,hs6,hs7⟩:=(E1.o.below hb').eight;clear hw';go_simp
         try rfl
        conv=>arg 10;simp only[Act.put,zq0,zq1,zq2]
       refine FS.JC (by rfl) rfl rfl (fun w' hw'=>?_) ?_
       ·have hb':=hw'.world;refine FS.Jn (FS.PK (.int .i64 sg)) ?_ (fun _ _ h=>h.post);go_simp;have CT:=(show Calls Tryz.prog 77 #[.agg #[.bool t.c.t.s,.slice t.c.t.a t.c.t.n t.c.t.c,.bool t.c.l.s,.slice t.c.l.a t.c.l.n t.c.l.c]] w' _ from Kt (x:=t.c) (NF.o.below hb').any HLF.o);rw[show Jv q.num 0=sg from HSG.o] at CT;refine CT.mono ?_;rintro e w'' ⟨rfl,hb⟩;exact⟨_,rfl,rfl,hb⟩
       rintro _ rfl
       conv=>arg 10;simp only[Act.put,zq0,zq1,zq2]
       refine FS.Jm (by rfl) rfl rfl ?_ (fun w' hw'=>?_) ?_;rotate_left
       ·have hb':=hw'.world;skip;clear hw';go_simp
        try rfl
       conv=>arg 10;simp only[Act.put,zq0,zq1,zq2]
       iterate 2
        refine FS.Jb rfl rfl rfl ?_ (fun w' hw'=>?_) ?_;rotate_left
        ·have hb':=hw'.world;skip;clear hw';go_simp
         try rfl
        conv=>arg 10;simp only[Act.put,zq0,zq1,zq2]
       iterate 14
        refine FS.Jm (by rfl) rfl rfl ?_ (fun w' hw'=>?_) ?_;rotate_left
        ·have hb':=hw'.world;have hj:=EJW.o;have hn:=HJN.o;obtain⟨hs0,hs1,hs2,hs3,hs4,hs5,hs6,hs7⟩:=(EJ.o.below hb').eight;have hn:=HKL.o;obtain⟨hs0,hs1,hs2,hs3,hs4,hs5,hs6,hs7⟩:=(E1.o.below hb').eight;clear hw';go_simp
         try rfl
        conv=>arg 10;simp only[Act.put,zq0,zq1,zq2]
       refine FS.JC (by rfl) rfl rfl (fun w' hw'=>?_) ?_
       ·have hb':=hw'.world;refine FS.Jn (FS.PK (.int .i64 fv)) ?_ (fun _ _ h=>h.post);go_simp;have CT:=(show Calls Tryz.prog 151 #[.int .u8 0,.agg #[.int .u16 tj.m.x,.int .u16 tj.m.y,.int .u16 tj.m.z,.int .u16 tj.m.t],.agg #[.int .u16 t.m.x,.int .u16 t.m.y,.int .u16 t.m.z,.int .u16 t.m.t]] w' _ from rcmpV 0 tj.m t.m w' HS2.o HS1.o);rw[show Mono.Jv (UW 0 tj.m) (UW 0 t.m)=fv from HFV.o] at CT;refine CT.mono ?_;rintro e w'' ⟨rfl,hb⟩;exact⟨_,rfl,rfl,hb⟩
       rintro _ rfl
       conv=>arg 10;simp only[Act.put,zq0,zq1,zq2]
       iterate 2
        refine FS.Jm (by rfl) rfl rfl ?_ (fun w' hw'=>?_) ?_;rotate_left
        ·have hb':=hw'.world;skip;clear hw';go_simp
         try rfl
        conv=>arg 10;simp only[Act.put,zq0,zq1,zq2]
       refine FS.Jo (fun w105 hb hF=>?_);clear hF;have KG:=qk KG hb;clear hb;go_wp2_with fail
       go_ret;exact⟨by rw[HEND.o] <;> rfl,KG.o⟩
  ·have HEND:=qh (show true=bv by
    rw[HBV.o]
    exact(decide_eq_true (by have:=HKK0.o;have:=HK0.o;have:=HLN.o;omega)).symm)
   have hge:¬((k:Int)<(xn:Int)):=by omega
   clear hkl;go_wp2_with fail
   go_ret;exact⟨by rw[HEND.o] <;> rfl,KG.o⟩
theorem rcheck_k {w:World} {x:PV} {P:List Tm} (h:KP w x P) (hq:∀ t∈P,LQ t.2 900000) (hn:x.n<=1000000000):Calls Tryz.prog 54 #[x.v] w fun e w'=>e=.returned (.bool true)/\Below w.heap.size w w':=by
 obtain⟨K,h1,h2,h3,h4⟩:=h.ex
 have hR:UK w x (K.map fun e=>(e.1,some e.2)):=by
  refine⟨by rw[List.map_map];exact h1,by rw[List.length_map];exact h2,h.le,fun e he=>?_,fun e he=>?_,fun e he=>?_⟩
  ·obtain⟨f,hf,rfl⟩:=List.mem_map.1 he;exact h3 f hf
  ·obtain⟨f,hf,rfl⟩:=List.mem_map.1 he;exact h.small (tm f) (by rw[<- h4];exact List.mem_map_of_mem hf)
  ·obtain⟨f,hf,rfl⟩:=List.mem_map.1 he;exact(h3 f hf).len (hq (tm f) (by rw[<- h4];exact List.mem_map_of_mem hf)) zj
 have hok:okP (K.map fun e=>(e.1,some e.2)):=by
  refine⟨P,?_,h.canon⟩;rw[Ze];refine⟨by rw[<- h4,List.length_map,List.length_map],fun i e he=>?_⟩;rw[List.getElem?_map] at he
  cases hk:K[i]? with
  | none=>rw[hk] at he;cases he
  | some f =>
   rw[hk] at he
   obtain rfl:(f.1,some f.2)=e:=by simpa using he
   exact⟨f.2,rfl,by rw[<- h4,List.getElem?_map,hk];rfl⟩
 have g:=Vw x _ (K.map fun e=>(e.1,some e.2)).length w hR hn zj ((Vq _).1 hok) (fun h=>absurd h (by omega));rwa [decide_eq_true rfl] at g
theorem rcheck_b {w:World} {x:PV} (h:BP w x) (hn:x.n<=1000000000):Calls Tryz.prog 54 #[x.v] w fun e w'=>e=.returned (.bool false)/\Below w.heap.size w w':=by
 obtain⟨L,hR,hk⟩:=h;rw[Vq] at hk
 have first:∀ n,n<=L.length->(∀ i,i<n->Ok1 L i)\/∃ k0,k0<n/\(∀ i,i<k0->Ok1 L i)/\¬Ok1 L k0:=by
  intro n
  induction n with
  | zero=>exact fun _=>Or.inl fun i hi=>by omega
  | succ n ih =>
   intro hn
   rcases ih (by omega) with h1 | ⟨k0,h1,h2⟩
   ·by_cases h2:Ok1 L n
    ·exact Or.inl fun i hi=>(Nat.lt_or_eq_of_le (Nat.le_of_lt_succ hi)).elim (h1 i) (fun e=>e▸h2)
    ·exact Or.inr ⟨n,by omega,h1,h2⟩
   ·exact Or.inr ⟨k0,by omega,h2⟩
 rcases first L.length zj with h1 | ⟨k0,h1,h2,h3⟩
 ·exact absurd h1 hk
 ·have g:=Vw x L k0 w hR hn (Nat.le_of_lt h1) h2 (fun _=>h3);rwa [zo (by omega)] at g
theorem rfit_k {w:World} {x:PV} {P:List Tm} (h:KP w x P) (hq:∀ t∈P,LQ t.2 900000) (hn:x.n<=1000000000):Calls Tryz.prog 79 #[x.v] w fun e w'=>e=.returned x.v/\Below w.heap.size w w':=by
 have C:=qh (rcheck_k h hq hn);go_enter Tryz.func79,Tryz.ntmps79;go_wp2_with fail
 refine C.o.mono ?_;rintro e w1 ⟨rfl,hb⟩;have HB:=qh hb;clear hb C;go_wp2_with fail
 go_ret;exact⟨rfl,HB.o⟩
theorem rfit_b {w:World} {x:PV} (h:BP w x) (hn:x.n<=1000000000):Calls Tryz.prog 79 #[x.v] w fun e w'=>e=.returned (.slice none 0 0)/\Below w.heap.size w w':=by
 have C:=qh (rcheck_b h hn);go_enter Tryz.func79,Tryz.ntmps79;go_wp2_with fail
 refine C.o.mono ?_;rintro e w1 ⟨rfl,hb⟩;have HB:=qh hb;clear hb C;go_wp2_with fail
 go_ret;exact⟨rfl,HB.o⟩
structure RS (w:World) (a:Option Addr) (ps:List PV):Prop where
 ex:ps≠[]->∃ b off,a=some ⟨b,off,none⟩/\∀ i p,ps[i]?=some p->w.cell? ⟨b,off+i,none⟩=some p.v
theorem RS.nil (w:World) (a:Option Addr):RS w a []:=⟨fun h=>absurd rfl h⟩
def pw (l:Nat->Rat) (m:Mo) (q:Rat):Nat->Rat
 | 0=>q
 | i+1=>pw l m q i*l i ^ m.at i
theorem pw_four (l:Nat->Rat) (m:Mo) (q:Rat):pw l m q 4=q*atM l m:=by
 show q*l 0 ^ m.x*l 1 ^ m.y*l 2 ^ m.z*l 3 ^ m.t=_;unfold atM;grind
theorem pw_lq {l:Nat->Rat} {m:Mo} {q:Rat} {kp kl E:Nat} (hq:LQ q kp) (hl:∀ i,LQ (l i) kl) (hm:∀ i,m.at i<=E):∀ i,LQ (pw l m q i) (kp+i*(E*kl+1))
 | 0=>hq.up (by omega)
 | i+1=>by
  have h1:=(Vu (hl i) (m.at i)).up (Nat.add_le_add_right (Nat.mul_le_mul_right kl (hm i)) 1);exact((pw_lq hq hl hm i).ls.mul h1.ls).lq (by rw[Nat.add_mul];omega) (by rw[Nat.add_mul];omega)
theorem ev_nq {f:Mo->Rat} {k:Nat}:∀ {L:List Tm},(∀ t∈L,LQ (t.2*f t.1) k)->ev L f=0\/∃ j,0<j/\j<=L.length/\NQ (ev L f) j k
 | [],_=>Or.inl rfl
 | t :: r,h=>by
  have h1:=NQ.one (h t (List.mem_cons_self ..));rw[JA]
  rcases ev_nq (L:=r) (f:=f) fun u hu=>h u (List.mem_cons_of_mem _ hu) with h2 | ⟨j,h3,h4,h5⟩
  ·rw[h2,Rat.add_zero];exact Or.inr ⟨1,by omega,by rw[List.length_cons];omega,h1⟩
  ·exact Or.inr ⟨1+j,by omega,by rw[List.length_cons];omega,h1.add h5 (by omega) h3⟩
theorem at_one (m:Mo) (i:Nat) (E:Nat) (h:m.le E):m.at i<=E:=by
 obtain⟨h1,h2,h3,h4⟩:=h;unfold Mo.at;split
 ·exact h1
 ·split
  ·exact h2
  ·split
   ·exact h3
   ·exact h4
def FB (w:World) (x:FV) (ok:Bool):Prop:=match ok with
 | true=>∃ q,KF w x q
 | false=>BF w x
structure B4 (w:World) (x0 x1 x2 x3:FV) (ok:Nat->Bool):Prop where
 k0:FB w x0 (ok 0)
 k1:FB w x1 (ok 1)
 k2:FB w x2 (ok 2)
 k3:FB w x3 (ok 3)
 l0:LF x0 900000
 l1:LF x1 900000
 l2:LF x2 900000
 l3:LF x3 900000
theorem DF.only {w w':World} {lo c:Nat} {x:FV} {q:Rat} {es:Array MapEntry} {k:Nat} (h:DF w lo x q) (ho:Only c w w') (hc:w.heap[c]?=some (.map es k)):DF w' lo x q :=
 h.kept fun b hb=>by
  obtain⟨cur,h1⟩:=DF.blkc h hb
  exact ho.2.2.2.2 b (lt_of_block h1) fun e=>by rw[e,hc] at h1;cases h1
theorem MK.only {w w':World} {lo b c:Nat} {L:List TE} {es:Array MapEntry} {k:Nat} (h:MK w lo b L) (ho:Only c w w') (hc:w.heap[c]?=some (.map es k)) (hne:b≠c):MK w' lo b L :=
 ⟨(ho.2.2.2.2 b h.lt hne).trans h.blk,h.ge,fun e he=>DF.only (h.df e he) ho hc,h.ap,h.keys,h.small⟩
theorem Kc (A:List Tm) (t:Tm) (i k:Nat):VZ (A++[t]) i k=VZ A i k++(if t.1.at i=k then [(t.1.cut i,t.2)] else []):=by
 unfold VZ;rw[List.filter_append,List.map_append]
 congr 1
 by_cases h:t.1.at i=k
 ·rw[if_pos h,List.filter_cons_of_pos (by simpa using h)];rfl
 ·rw[if_neg h,List.filter_cons_of_neg (by simpa using h)];rfl
structure MR (w:World) (lo g d i:Nat) (A:List Tm) (bs:Nat->Option Nat) (Ms:Nat->List TE):Prop where
 row:w.rowIs g 123 (d+1) (fun k=>.map (bs k))
 nil:∀ k,k<=d->bs k=none->VZ A i k=[]
 got:∀ k b,k<=d->bs k=some b->MK w lo b (Ms k)/\∀ f,ev ((Ms k).map tm) f=ev (VZ A i k) f
 inj:∀ k j b,k<=d->j<=d->bs k=some b->bs j=some b->k=j
theorem MR.add {w w':World} {lo g d i b:Nat} {A:List Tm} {bs:Nat->Option Nat} {Ms:Nat->List TE} (h:MR w lo g d i A bs Ms) {m:Mo} {q:Rat} (hk:m.at i<=d) (hb:bs (m.at i)=some b) (ho:Only b w w')
  {L':List TE} (hM:MK w' lo b L') (hL:L'.map tm=Ya (m.cut i) q ((Ms (m.at i)).map tm)):MR w' lo g d i (A++[(m,q)]) bs (fun k=>if k=m.at i then L' else Ms k) where
 row:=h.row.of_block (ho.2.2.2.2 g h.row.lt fun e=>by
  obtain⟨c,h1,_⟩:=h.row;rw[e,(h.got _ b hk hb).1.blk] at h1
  cases h1)
 nil k hkd h0:=by
  rw[Kc,h.nil k hkd h0,if_neg fun e=>by rw[<- e,show((m,q):Tm).1.at i=m.at i from rfl,hb] at h0;cases h0];rfl
 got k c hkd h1:=by
  by_cases e:k=m.at i
  ·subst e;obtain rfl:b=c:=Option.some.inj (hb.symm.trans h1);rw[if_pos rfl];refine⟨hM,fun f=>?_⟩;rw[hL,jay,(h.got _ b hk hb).2 f,Kc,if_pos rfl,Xu];show _=_+(q*f (m.cut i)+0);grind
  ·rw[if_neg e]
   have hne:c≠b:=fun hc=>e (h.inj k _ b hkd hk (by rw[h1,hc]) hb)
   refine⟨MK.only (h.got k c hkd h1).1 ho (h.got _ b hk hb).1.blk hne,fun f=>?_⟩;rw[Kc,if_neg fun hc=>e hc.symm,List.append_nil];exact(h.got k c hkd h1).2 f
 inj:=h.inj
end Pol
end Go.Proofs.YtgkkbkoiaccmfaaGreatDoor
