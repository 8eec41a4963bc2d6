/-
  The references' fractions, and their order of products of letters, under one name each.
-/
import Derived.Test.YtgkkbkoiaccmfaaGreatDoorPzNO
import Derived.SizedLaws
import Derived.Lib.EndianBits
set_option linter.unusedSimpArgs false
set_option linter.unusedVariables false
set_option maxHeartbeats 16000000
set_option maxRecDepth 100000
namespace Go.Proofs.YtgkkbkoiaccmfaaGreatDoor
namespace Pol
open Go.RowKit Go.Sort Limb
structure RE (w:World) (b off i:Nat) (t:TV):Prop where
 lt:b<w.heap.size
 cell:∀ j v,t.cells[j]?=some v->w.cell? ⟨b,off+i*8+j,none⟩=some v
theorem RE.below {w w':World} {b off i:Nat} {t:TV} (h:RE w b off i t) (hb:Below w.heap.size w w'):RE w' b off i t :=
 ⟨Nat.lt_of_lt_of_le h.lt hb.size,fun j v hj=>(hb.cell (p:=⟨b,off+i*8+j,none⟩) h.lt).trans (h.cell j v hj)⟩
theorem RE.eight {w:World} {b off i:Nat} {t:TV} (h:RE w b off i t) :
  w.cell? ⟨b,off+i*8,none⟩=some (.bool t.c.t.s)/\w.cell? ⟨b,off+i*8+1,none⟩=some (.slice t.c.t.a t.c.t.n t.c.t.c)/\w.cell? ⟨b,off+i*8+2,none⟩=some (.bool t.c.l.s)/\w.cell? ⟨b,off+i*8+3,none⟩=some (.slice t.c.l.a t.c.l.n t.c.l.c) /\
  w.cell? ⟨b,off+i*8+4,none⟩=some (.int .u16 t.m.x)/\w.cell? ⟨b,off+i*8+5,none⟩=some (.int .u16 t.m.y)/\w.cell? ⟨b,off+i*8+6,none⟩=some (.int .u16 t.m.z)/\w.cell? ⟨b,off+i*8+7,none⟩=some (.int .u16 t.m.t) :=
 ⟨h.cell 0 _ rfl,h.cell 1 _ rfl,h.cell 2 _ rfl,h.cell 3 _ rfl,h.cell 4 _ rfl,h.cell 5 _ rfl,h.cell 6 _ rfl,h.cell 7 _ rfl⟩
theorem RT.one {w:World} {a:Option Addr} {ts:List TV} (h:RT w a ts) (hn:ts≠[]):∃ b off,a=some ⟨b,off,none⟩/\∀ i t,ts[i]?=some t->RE w b off i t:=by
 obtain⟨b,off,ha,hc⟩:=h.ex hn;exact⟨b,off,ha,fun i t hi=>⟨block_lt_of_cell (hc i t hi 0 _ rfl),hc i t hi⟩⟩
theorem jgt (t u:TV) (q:Rat) (w:World) (h1:KF w t.c q) (h2:KF w u.c q) (hm:t.m=u.m) (hq:LQ q 900000):Calls Tryz.prog 40 #[TV.v t,TV.v u] w fun e w'=>e=.returned (.bool true)/\Below w.heap.size w w':=by
 obtain⟨V,hV⟩:∃ V,V=(w.alloc (.cells #[.bool t.c.t.s,.slice t.c.t.a t.c.t.n t.c.t.c,.bool t.c.l.s,.slice t.c.l.a t.c.l.n t.c.l.c,.int .u16 t.m.x,.int .u16 t.m.y,.int .u16 t.m.z,.int .u16 t.m.t] 71)).alloc (.cells #[.bool u.c.t.s,.slice u.c.t.a u.c.t.n u.c.t.c,.bool u.c.l.s,.slice u.c.l.a u.c.l.n u.c.l.c,.int .u16 u.m.x,.int .u16 u.m.y,.int .u16 u.m.z,.int .u16 u.m.t] 71):=⟨_,rfl⟩
 have hbV:Below w.heap.size w V:=by rw[hV];exact(zk.alloc zj _).alloc (by go_size) _
 have B1:=qh (show Bxs V w.heap.size 71 [.bool t.c.t.s,.slice t.c.t.a t.c.t.n t.c.t.c,.bool t.c.l.s,.slice t.c.l.a t.c.l.n t.c.l.c,.int .u16 t.m.x,.int .u16 t.m.y,.int .u16 t.m.z,.int .u16 t.m.t] by rw[hV];exact(Bxs.new w 71 [.bool t.c.t.s,.slice t.c.t.a t.c.t.n t.c.t.c,.bool t.c.l.s,.slice t.c.l.a t.c.l.n t.c.l.c,.int .u16 t.m.x,.int .u16 t.m.y,.int .u16 t.m.z,.int .u16 t.m.t]).alloc _)
 have B2:=qh (show Bxs V (w.heap.size+1) 71 [.bool u.c.t.s,.slice u.c.t.a u.c.t.n u.c.t.c,.bool u.c.l.s,.slice u.c.l.a u.c.l.n u.c.l.c,.int .u16 u.m.x,.int .u16 u.m.y,.int .u16 u.m.z,.int .u16 u.m.t] by
  have h:=Bxs.new (w.alloc (.cells #[.bool t.c.t.s,.slice t.c.t.a t.c.t.n t.c.t.c,.bool t.c.l.s,.slice t.c.l.a t.c.l.n t.c.l.c,.int .u16 t.m.x,.int .u16 t.m.y,.int .u16 t.m.z,.int .u16 t.m.t] 71)) 71 [.bool u.c.t.s,.slice u.c.t.a u.c.t.n u.c.t.c,.bool u.c.l.s,.slice u.c.l.a u.c.l.n u.c.l.c,.int .u16 u.m.x,.int .u16 u.m.y,.int .u16 u.m.z,.int .u16 u.m.t];rw[World.size_alloc] at h
  rw[hV];exact h)
 have KG:=qh hbV;have SF:=qh (qsameFr (h1.below hbV) (h1.len hq zj) (h2.below hbV) (h2.len hq zj) rfl);have HV:=qh hV;obtain⟨tc,⟨mx,my,mz,mt⟩⟩:=t;obtain⟨uc,um⟩:=u;change (⟨mx,my,mz,mt⟩:Mo)=um at hm;subst hm;change Calls Tryz.prog 40 #[.agg #[.bool tc.t.s,.slice tc.t.a tc.t.n tc.t.c,.bool tc.l.s,.slice tc.l.a tc.l.n tc.l.c,.int .u16 mx,.int .u16 my,.int .u16 mz,.int .u16 mt],.agg #[.bool uc.t.s,.slice uc.t.a uc.t.n uc.t.c,.bool uc.l.s,.slice uc.l.a uc.l.n uc.l.c,.int .u16 mx,.int .u16 my,.int .u16 mz,.int .u16 mt]] w _;clear hV hbV h1 h2 hq;go_enter Tryz.func40,Tryz.ntmps40
 go_upto_region 1 with (fail)
 rw[show(w.alloc (.cells #[.bool tc.t.s,.slice tc.t.a tc.t.n tc.t.c,.bool tc.l.s,.slice tc.l.a tc.l.n tc.l.c,.int .u16 mx,.int .u16 my,.int .u16 mz,.int .u16 mt] 71)).alloc (.cells #[.bool uc.t.s,.slice uc.t.a uc.t.n uc.t.c,.bool uc.l.s,.slice uc.l.a uc.l.n uc.l.c,.int .u16 mx,.int .u16 my,.int .u16 mz,.int .u16 mt] 71)=V from HV.o.symm];have c10:=B1.o.ce 0;have c11:=B1.o.ce 1;have c12:=B1.o.ce 2;have c13:=B1.o.ce 3;have c14:=B1.o.ce 4;have c15:=B1.o.ce 5;have c16:=B1.o.ce 6;have c17:=B1.o.ce 7;have c20:=B2.o.ce 0;have c21:=B2.o.ce 1;have c22:=B2.o.ce 2;have c23:=B2.o.ce 3;have c24:=B2.o.ce 4;have c25:=B2.o.ce 5;have c26:=B2.o.ce 6;have c27:=B2.o.ce 7;go_wp2_with fail
 with_reducible refine SF.o.mono ?_
 rintro e w1 ⟨rfl,hb⟩;have KG:=qk KG hb;have B1:=qh (B1.o.bl hb);have B2:=qh (B2.o.bl hb);clear hb SF c10 c11 c12 c13 c14 c15 c16 c17 c20 c21 c22 c23 c24 c25 c26 c27;have c10:=B1.o.ce 0;have c11:=B1.o.ce 1;have c12:=B1.o.ce 2;have c13:=B1.o.ce 3;have c14:=B1.o.ce 4;have c15:=B1.o.ce 5;have c16:=B1.o.ce 6;have c17:=B1.o.ce 7;have c20:=B2.o.ce 0;have c21:=B2.o.ce 1;have c22:=B2.o.ce 2;have c23:=B2.o.ce 3;have c24:=B2.o.ce 4;have c25:=B2.o.ce 5;have c26:=B2.o.ce 6;have c27:=B2.o.ce 7;go_wp2_with fail
 go_ret;exact⟨rfl,KG.o⟩
theorem same_k (x y:PV) (P:List Tm) (w:World) (hx:KP w x P) (hy:KP w y P) (hp:∀ t∈P,LQ t.2 900000) (hn:P.length<=1000000):Calls Tryz.prog 18 #[x.v,y.v] w fun e w'=>e=.returned (.bool true)/\Below w.heap.size w w':=by
 have hxl:=hx.len;have hyl:=hy.len;obtain⟨xa,xn,xc⟩:=x;obtain⟨ya,n,yc⟩:=y;change xn=P.length at hxl;change n=P.length at hyl;obtain rfl:xn=n:=hxl.trans hyl.symm;obtain⟨L1,g1,g2,g3,g4⟩:=hx.ex;obtain⟨L2,k3,k4,k5,k6⟩:=hy.ex;have HP:=qh hp;have HNN:=qh (show xn<=1000000 by rw[hyl];exact hn);have R1:=qh g1;have R2:=qh k3;have F1:=qh g3;have F2:=qh k5;have T1:=qh g4;have T2:=qh k6;have N1:=qh (show L1.length=xn from g2);have N2:=qh (show L2.length=xn from k4);change Calls Tryz.prog 18 #[.slice xa xn xc,.slice ya xn yc] w _;clear hx hy hp hn hxl hyl g1 g2 g3 g4 k3 k4 k5 k6;go_enter Tryz.func18,Tryz.ntmps18;go_wp2_with fail
 go_loopw [5] (fun i wr=>∃ j:Nat,j<=xn/\i=.int .i64 j/\Below w.heap.size w wr) (fun i _=>xn-(intOf i).toNat)
 case atStart =>
  exact⟨0,Nat.zero_le _,rfl,zk⟩
 case round =>
  obtain⟨j,hj,rfl,hb0⟩:=hrel;have HJ:=qh hj;have KG:=qh hb0;clear hj hb0;by_cases hjn:j<xn
  ·have HJN:=qh hjn
   have h1l:j<L1.length:=by rw[N1.o];exact hjn
   have h2l:j<L2.length:=by rw[N2.o];exact hjn
   obtain⟨pb,po,rfl,hc1⟩:=(R1.o.below KG.o).one (fun h=>by rw[List.map_eq_nil_iff] at h;rw[h] at h1l;simp at h1l);obtain⟨qb,qo,rfl,hc2⟩:=(R2.o.below KG.o).one (fun h=>by rw[List.map_eq_nil_iff] at h;rw[h] at h2l;simp at h2l);obtain⟨⟨t,q⟩,he1⟩:∃ e,L1[j]?=some e:=⟨_,List.getElem?_eq_getElem h1l⟩;obtain⟨⟨u,r⟩,he2⟩:∃ e,L2[j]?=some e:=⟨_,List.getElem?_eq_getElem h2l⟩;have E1:=qh (hc1 j t (by rw[List.getElem?_map,he1];rfl));have E2:=qh (hc2 j u (by rw[List.getElem?_map,he2];rfl))
   have p1:P[j]?=some (t.m,q):=by rw[<- T1.o,List.getElem?_map,he1];rfl
   have p2:P[j]?=some (u.m,r):=by rw[<- T2.o,List.getElem?_map,he2];rfl
   have pe:(t.m,q)=(u.m,r):=Option.some.inj (p1.symm.trans p2);have HMM:=qh (show t.m=u.m from congrArg Prod.fst pe);obtain rfl:q=r:=congrArg Prod.snd pe;have NT:=qh (show KF wr t.c q from(F1.o _ (List.mem_of_getElem? he1)).below KG.o);have NU:=qh (show KF wr u.c q from(F2.o _ (List.mem_of_getElem? he2)).below KG.o);have LQq:=qh (HP.o _ (List.mem_of_getElem? p1));have ek:IntKind.i64.wrap ((j:Int)+1)=(j:Int)+1:=IntWalk.i64_in _ (by have:=HJN.o;have:=HNN.o;omega);clear hc1 hc2 he1 he2 p1 p2 pe h1l h2l
   go_upto_region 6 with (fail)
   refine FS.Jb 9 [] (FS.JM [(8,FS.Sp.know (.bool true))])
    (fun w'=>Below wr.heap.size wr w') (by kernel_rfl) (by kernel_rfl) (by kernel_rfl)
    (FS.Jd (FS.Sp.Jl _ _) (FS.Jk)) (fun _ _ h hb=>h.trans (hb.mono h.size)) (zk.drew) ?_
   simp only[zu,zi,ze,zx,zy,zv,zw]
   iterate 8
    refine FS.Jc rfl rfl rfl ?_ (fun w' hw'=>?_) ?_;rotate_left
    ·have hb':=hw'.world;obtain⟨hs0,hs1,hs2,hs3,hs4,hs5,hs6,hs7⟩:=(E1.o.below hb').eight;obtain⟨hs0,hs1,hs2,hs3,hs4,hs5,hs6,hs7⟩:=(E2.o.below hb').eight;clear hw';go_simp
     try rfl
    conv=>arg 10;simp only[Act.put,zq0,zq1,zq2]
   refine FS.Jg rfl rfl rfl (fun w' hw'=>?_) ?_
   ·have hb':=hw'.world;refine FS.Jp (FS.PK (.bool true)) ?_ (fun _ _ h=>h.post);go_simp;have CT:=jgt t u q w' (NT.o.below hb') (NU.o.below hb') HMM.o LQq.o;refine CT.mono ?_;rintro e w'' ⟨rfl,hb⟩;exact⟨_,rfl,rfl,hb⟩
   rintro _ rfl
   conv=>arg 10;simp only[Act.put,zq0,zq1,zq2]
   refine FS.Jn (fun w101 hb hF=>?_);clear hF;have KG:=qk KG hb;clear hb;go_wp2_with fail
   go_roundw
   case rel =>
    exact⟨j+1,by have:=HJN.o;omega,rfl,KG.o⟩
   case measure=>simp[intOf];have:=HJN.o;omega
  ·have hge:¬((j:Int)<(xn:Int)):=by omega
   clear hjn;go_wp2_with fail
   go_ret;exact⟨rfl,KG.o⟩
def IR (w:World) (e:Ending) (w':World):Prop:=∃ z:Int,e=.returned (.int .i64 z)/\Below w.heap.size w w'
theorem IR.is {w w':World} (z:Int) (h:Below w.heap.size w w'):IR w (.returned (.int .i64 z)) w':=⟨z,rfl,h⟩
def BR (w:World) (Φ:Prop) (e:Ending) (w':World):Prop:=∃ b:Bool,e=.returned (.bool b)/\(b=false->Φ)/\Below w.heap.size w w'
theorem BR.yes {w w':World} {Φ:Prop} (h:Below w.heap.size w w'):BR w Φ (.returned (.bool true)) w':=⟨true,rfl,nofun,h⟩
theorem BR.no {w w':World} {Φ:Prop} (h:Below w.heap.size w w') (hp:Φ):BR w Φ (.returned (.bool false)) w':=⟨false,rfl,fun _=>hp,h⟩
theorem jdw (a:Option Addr) (n c:Nat) (w:World):Calls Tryz.prog 169 #[.slice a n c] w fun e w'=>IR w e w':=by
 go_enter Tryz.func169,Tryz.ntmps169;go_wp2_with fail
 go_ret;exact IR.is _ zk
theorem jci (s:Bool) (a:Option Addr) (n c:Nat) (w:World):Calls Tryz.prog 66 #[.agg #[.bool s,.slice a n c]] w fun e w'=>IR w e w':=by
 obtain⟨V,hV⟩:∃ V,V=w.alloc (.cells #[.bool s,.slice a n c] 26):=⟨_,rfl⟩
 have hbV:Below w.heap.size w V:=by rw[hV];exact zk.alloc zj _
 have B1:=qh (show Bxs V w.heap.size 26 [.bool s,.slice a n c] by rw[hV];exact Bxs.new w 26 [.bool s,.slice a n c]);have KG:=qh hbV;have HV:=qh hV;clear hV hbV;go_enter Tryz.func66,Tryz.ntmps66
 go_upto_region 1 with (fail)
 rw[show w.alloc (.cells #[.bool s,.slice a n c] 26)=V from HV.o.symm];have c0:=B1.o.ce 0;have c1:=B1.o.ce 1;go_wp2_with fail
 with_reducible refine(jdw _ _ _ _).mono ?_
 rintro e w1 ⟨zw1,rfl,hb⟩;have KG:=qk KG hb;have B1:=qh (B1.o.bl hb);clear hb c0 c1;go_wp2_with fail
 go_ret;exact IR.is _ KG.o
theorem jgu (x:FV) (w:World):Calls Tryz.prog 11 #[x.v] w fun e w'=>IR w e w':=by
 obtain⟨V,hV⟩:∃ V,V=w.alloc (.cells #[.bool x.t.s,.slice x.t.a x.t.n x.t.c,.bool x.l.s,.slice x.l.a x.l.n x.l.c] 28):=⟨_,rfl⟩
 have hbV:Below w.heap.size w V:=by rw[hV];exact zk.alloc zj _
 have B1:=qh (show Bxs V w.heap.size 28 [.bool x.t.s,.slice x.t.a x.t.n x.t.c,.bool x.l.s,.slice x.l.a x.l.n x.l.c] by rw[hV];exact Bxs.new w 28 [.bool x.t.s,.slice x.t.a x.t.n x.t.c,.bool x.l.s,.slice x.l.a x.l.n x.l.c]);have KG:=qh hbV;have HV:=qh hV;clear hV hbV;change Calls Tryz.prog 11 #[.agg #[.bool x.t.s,.slice x.t.a x.t.n x.t.c,.bool x.l.s,.slice x.l.a x.l.n x.l.c]] w _;go_enter Tryz.func11,Tryz.ntmps11
 go_upto_region 1 with (fail)
 rw[show w.alloc (.cells #[.bool x.t.s,.slice x.t.a x.t.n x.t.c,.bool x.l.s,.slice x.l.a x.l.n x.l.c] 28)=V from HV.o.symm];have c0:=B1.o.ce 0;have c1:=B1.o.ce 1;have c2:=B1.o.ce 2;have c3:=B1.o.ce 3;go_wp2_with fail
 with_reducible refine(jci _ _ _ _ _).mono ?_
 rintro e w1 ⟨zw1,rfl,hb⟩;have KG:=qk KG hb;have B1:=qh (B1.o.bl hb);clear hb c0 c1 c2 c3;by_cases h:wrap64 (1+zw1)<=1048576
 ·have c0:=B1.o.ce 0;have c1:=B1.o.ce 1;have c2:=B1.o.ce 2;have c3:=B1.o.ce 3;go_wp2_with fail
  with_reducible refine(jci _ _ _ _ _).mono ?_
  rintro e w2 ⟨z2,rfl,hb⟩;have KG:=qk KG hb;clear hb c0 c1 c2 c3;go_wp2_with fail
  go_ret;exact IR.is _ KG.o
 ·have h2:1048576<wrap64 (1+zw1):=by omega
  go_wp2_with fail
  go_ret;exact IR.is _ KG.o
theorem jgv (t:TV) (w:World):Calls Tryz.prog 168 #[TV.v t] w fun e w'=>IR w e w':=by
 obtain⟨V,hV⟩:∃ V,V=w.alloc (.cells #[.bool t.c.t.s,.slice t.c.t.a t.c.t.n t.c.t.c,.bool t.c.l.s,.slice t.c.l.a t.c.l.n t.c.l.c,.int .u16 t.m.x,.int .u16 t.m.y,.int .u16 t.m.z,.int .u16 t.m.t] 71):=⟨_,rfl⟩
 have hbV:Below w.heap.size w V:=by rw[hV];exact zk.alloc zj _
 have B1:=qh (show Bxs V w.heap.size 71 [.bool t.c.t.s,.slice t.c.t.a t.c.t.n t.c.t.c,.bool t.c.l.s,.slice t.c.l.a t.c.l.n t.c.l.c,.int .u16 t.m.x,.int .u16 t.m.y,.int .u16 t.m.z,.int .u16 t.m.t] by rw[hV];exact Bxs.new w 71 [.bool t.c.t.s,.slice t.c.t.a t.c.t.n t.c.t.c,.bool t.c.l.s,.slice t.c.l.a t.c.l.n t.c.l.c,.int .u16 t.m.x,.int .u16 t.m.y,.int .u16 t.m.z,.int .u16 t.m.t]);have KG:=qh hbV;have HV:=qh hV;clear hV hbV;change Calls Tryz.prog 168 #[.agg #[.bool t.c.t.s,.slice t.c.t.a t.c.t.n t.c.t.c,.bool t.c.l.s,.slice t.c.l.a t.c.l.n t.c.l.c,.int .u16 t.m.x,.int .u16 t.m.y,.int .u16 t.m.z,.int .u16 t.m.t]] w _;go_enter Tryz.func168,Tryz.ntmps168
 go_upto_region 1 with (fail)
 rw[show w.alloc (.cells #[.bool t.c.t.s,.slice t.c.t.a t.c.t.n t.c.t.c,.bool t.c.l.s,.slice t.c.l.a t.c.l.n t.c.l.c,.int .u16 t.m.x,.int .u16 t.m.y,.int .u16 t.m.z,.int .u16 t.m.t] 71)=V from HV.o.symm];have c0:=B1.o.ce 0;have c1:=B1.o.ce 1;have c2:=B1.o.ce 2;have c3:=B1.o.ce 3;have c4:=B1.o.ce 4;have c5:=B1.o.ce 5;have c6:=B1.o.ce 6;have c7:=B1.o.ce 7;go_wp2_with fail
 with_reducible refine(jgu t.c _).mono ?_
 rintro e w1 ⟨zw1,rfl,hb⟩;have KG:=qk KG hb;have B1:=qh (B1.o.bl hb);clear hb c0 c1 c2 c3 c4 c5 c6 c7;go_wp2_with fail
 go_ret;exact IR.is _ KG.o
theorem jgw (x:PV) (ts:List TV) (w:World) (hr:RT w x.a ts) (hl:ts.length=x.n) (hn:x.n<=1000000000):Calls Tryz.prog 65 #[x.v] w fun e w'=>IR w e w':=by
 obtain⟨xa,xn,xc⟩:=x;have HR:=qh hr;have HL:=qh (show ts.length=xn from hl);have HN:=qh (show xn<=1000000000 from hn);change Calls Tryz.prog 65 #[.slice xa xn xc] w _;clear hr hl hn;go_enter Tryz.func65,Tryz.ntmps65;go_wp2_with fail
 go_loopw [3,4] (fun s i wr=>∃ (j:Nat) (z:Int),j<=xn/\i=.int .i64 j/\s=.int .i64 z/\Below w.heap.size w wr) (fun _ i _=>xn-(intOf i).toNat)
 case atStart =>
  exact⟨0,_,Nat.zero_le _,rfl,rfl,zk⟩
 case round =>
  obtain⟨j,z,hj,rfl,rfl,hb0⟩:=hrel;have HJ:=qh hj;have KG:=qh hb0;clear hj hb0;by_cases hjn:j<xn
  ·by_cases hz:z<=1048576
   ·have HJN:=qh hjn
    have hjl:j<ts.length:=by rw[HL.o];exact hjn
    obtain⟨pb,po,rfl,hc⟩:=(HR.o.below KG.o).one (fun h=>by rw[h] at hjl;simp at hjl);obtain⟨t,he⟩:∃ t,ts[j]?=some t:=⟨_,List.getElem?_eq_getElem hjl⟩;obtain⟨c0,c1,c2,c3,c4,c5,c6,c7⟩:=(hc j t he).eight;have ek:IntKind.i64.wrap ((j:Int)+1)=(j:Int)+1:=IntWalk.i64_in _ (by have:=HJN.o;have:=HN.o;omega);clear hc he hjl;go_wp2_with fail
    with_reducible refine(jgv t _).mono ?_
    rintro e w1 ⟨z1,rfl,hb⟩;have KG:=qk KG hb;clear hb c0 c1 c2 c3 c4 c5 c6 c7;go_wp2_with fail
    go_roundw
    case rel =>
     exact⟨j+1,_,by have:=HJN.o;omega,rfl,rfl,KG.o⟩
    case measure=>simp[intOf];have:=HJN.o;omega
   ·have hz2:1048576<z:=by omega
    go_wp2_with fail
    go_ret;exact IR.is _ KG.o
  ·have hge:¬((j:Int)<(xn:Int)):=by omega
   clear hjn;go_wp2_with fail
   go_ret;exact IR.is _ KG.o
def XH (m:Nat) (ts:List TV):Prop:=ts.length<=m/\∀ t∈ts,t.c.t.n<=4/\t.c.l.n<=1
def jgx (m:Nat) (Xs:List (PV × List TV)):Prop:=∀ e∈Xs,XH m e.2
theorem jdx (g m k:Nat) (Xs:List (PV × List TV)) (w:World) (hk:Xs.length=k) (hc:∀ i e,Xs[i]?=some e->w.cell? ⟨g,i,none⟩=some e.1.v) (hr:∀ e∈Xs,RT w e.1.a e.2/\e.2.length=e.1.n)
  (hn:Xs.length<=1000) (hm:m<=1000) :
  Calls Tryz.prog 10 #[.int .i64 m,.slice (some ⟨g,0,none⟩) k k] w (BR w (jgx m Xs)):=by
 have HK:=qh hk;have HC:=qh hc;have HR:=qh hr;have HN:=qh hn;have HM:=qh hm;clear hk hc hr hn hm;go_enter Tryz.func10,Tryz.ntmps10;go_wp2_with fail
 go_loopw [5] (fun i wr=>∃ j:Nat,j<=k/\i=.int .i64 j/\(∀ i e,Xs[i]?=some e->i<j->XH m e.2)/\Below w.heap.size w wr) (fun i _=>k-(intOf i).toNat)
 case atStart =>
  exact⟨0,Nat.zero_le _,rfl,fun i e _ h=>absurd h (Nat.not_lt_zero _),zk⟩
 case round =>
  obtain⟨j,hj,rfl,hg,hb0⟩:=hrel;have HJ:=qh hj;have HG:=qh hg;have KG:=qh hb0;clear hj hg hb0;by_cases hjn:j<k
  ·have HJN:=qh hjn;obtain⟨⟨⟨xa,xn,xc⟩,ts⟩,he⟩:∃ e,Xs[j]?=some e:=⟨_,List.getElem?_eq_getElem (by rw[HK.o];exact hjn)⟩;have HE:=qh he;have CG:=qh (show ∀ w2,Below w.heap.size w w2->w2.cell? ⟨g,j,none⟩=some (.slice xa xn xc) from fun (w2:World) (h:Below w.heap.size w w2)=>(h.cell (p:=⟨g,j,none⟩) (block_lt_of_cell (HC.o j _ he))).trans (HC.o j _ he));have c0:=CG.o _ KG.o;obtain⟨r1,r2⟩:=HR.o _ (List.mem_of_getElem? he);have RX:=qh r1;have LX:=qh (show ts.length=xn from r2);have ek:IntKind.i64.wrap ((j:Int)+1)=(j:Int)+1:=IntWalk.i64_in _ (by have:=HJN.o;have:=HK.o;have:=HN.o;omega);have em:IntKind.i64.wrap (40*(m:Int))=40*(m:Int):=IntWalk.i64_in _ (by have:=HM.o;omega);clear he r1 r2;by_cases hxm:xn<=m
   ·have HXM:=qh hxm;have NX:=qh (show xn<=1000000000 by have:=HM.o;omega)
    have h1:¬((xn:Int)>(m:Int)):=by omega
    have h2:¬((m:Int)<(xn:Int)):=by omega
    have PS:=qh (jgw ⟨xa,xn,xc⟩ ts wr (RX.o.below KG.o) LX.o NX.o);clear hxm;go_wp2_with fail
    with_reducible refine PS.o.mono ?_
    rintro e w1 ⟨z,rfl,hb⟩;have KG:=qk KG hb;clear hb PS c0;by_cases hz:z>40*(m:Int)
    ·have hz2:40*(m:Int)<z:=hz;go_wp2_with fail
     go_ret;exact BR.yes KG.o
    ·have hz2:¬(40*(m:Int)<z):=hz;go_wp2_with fail
     go_loopw [6] (fun i wr=>∃ l:Nat,l<=xn/\i=.int .i64 l/\(∀ i t,ts[i]?=some t->i<l->t.c.t.n<=4/\t.c.l.n<=1)/\Below w.heap.size w wr) (fun i _=>xn-(intOf i).toNat)
     case atStart =>
      exact⟨0,Nat.zero_le _,rfl,fun i e _ h=>absurd h (Nat.not_lt_zero _),KG.o⟩
     case round =>
      obtain⟨l,hl,rfl,hg2,hb0⟩:=hrel;have HL:=qh hl;have HG2:=qh hg2;have KG:=qh hb0;clear hl hg2 hb0;have c0:=CG.o _ KG.o;by_cases hln:l<xn
      ·have HLN:=qh hln
       have hll:l<ts.length:=by rw[LX.o];exact hln
       obtain⟨pb,po,rfl,hc⟩:=(RX.o.below KG.o).one (fun h=>by rw[h] at hll;simp at hll);obtain⟨t,ht⟩:∃ t,ts[l]?=some t:=⟨_,List.getElem?_eq_getElem hll⟩;obtain⟨d0,d1,d2,d3,d4,d5,d6,d7⟩:=(hc l t ht).eight;have HT:=qh ht;have el:IntKind.i64.wrap ((l:Int)+1)=(l:Int)+1:=IntWalk.i64_in _ (by have:=HLN.o;have:=NX.o;omega);clear hc ht hll;by_cases h4:t.c.t.n<=4
       ·have g1:¬((t.c.t.n:Int)>4):=by omega
        have g2:¬((4:Int)<(t.c.t.n:Int)):=by omega
        by_cases h5:t.c.l.n<=1
        ·have g3:¬((t.c.l.n:Int)>1):=by omega
         have g4:¬((1:Int)<(t.c.l.n:Int)):=by omega
         have H45:=qh (show t.c.t.n<=4/\t.c.l.n<=1 from⟨h4,h5⟩);clear h4 h5;go_wp2_with fail
         go_roundw
         case rel =>
          refine⟨l+1,by have:=HLN.o;omega,rfl,fun i t' h1 h2=>?_,KG.o⟩;by_cases h3:i<l
          ·exact HG2.o i t' h1 h3
          ·obtain rfl:i=l:=by omega
           rw[HT.o] at h1;obtain rfl:=Option.some.inj h1;exact H45.o
         case measure=>simp[intOf];have:=HLN.o;omega
        ·have g3:(t.c.l.n:Int)>1:=by omega
         have g4:(1:Int)<(t.c.l.n:Int):=by omega
         clear h4 h5;go_wp2_with fail
         go_ret;exact BR.yes KG.o
       ·have g1:(t.c.t.n:Int)>4:=by omega
        have g2:(4:Int)<(t.c.t.n:Int):=by omega
        clear h4;go_wp2_with fail
        go_ret;exact BR.yes KG.o
      ·have hge:¬((l:Int)<(xn:Int)):=by omega
       have HLE:=qh (show l=xn by have:=HL.o;omega);clear hln;go_wp2_with fail
       go_roundw
       case rel =>
        refine⟨j+1,by have:=HJN.o;omega,rfl,fun i e' h1 h2=>?_,KG.o⟩;by_cases h3:i<j
        ·exact HG.o i e' h1 h3
        ·obtain rfl:i=j:=by omega
         rw[HE.o] at h1;obtain rfl:=Option.some.inj h1;refine⟨by have h5:=LX.o;have h6:=HXM.o;show ts.length<=m;omega,fun t ht=>?_⟩;obtain⟨i2,h7⟩:=List.mem_iff_getElem?.1 (show t∈ts from ht);exact HG2.o i2 t h7 (by have h8:=(List.getElem?_eq_some_iff.1 h7).1;have h5:=LX.o;have h9:=HLE.o;omega)
       case measure=>simp[intOf];have:=HJN.o;omega
   ·have h1:(xn:Int)>(m:Int):=by omega
    have h2:(m:Int)<(xn:Int):=by omega
    clear hxm;go_wp2_with fail
    go_ret;exact BR.yes KG.o
  ·have hge:¬((j:Int)<(k:Int)):=by omega
   have HJE:=qh (show j=k by have:=HJ.o;omega);clear hjn;go_wp2_with fail
   go_ret
   refine BR.no KG.o fun e he=>?_
   obtain⟨i,h⟩:=List.mem_iff_getElem?.1 he;exact HG.o i e h (by have h8:=(List.getElem?_eq_some_iff.1 h).1;have h9:=HJE.o;have:=HK.o;omega)
structure TwN (w:World) (lo:Nat) (t x:NV) (o:Nat->Int):Prop where
 s:t.s=x.s
 n:t.n=x.n
 c:t.c=x.n+1
 own:Limb.Own 160 w lo t.a (x.n+1) (x.n+1) (tw o x.n)
structure TwF (w:World) (lo:Nat) (t x:FV) (o1 o2:Nat->Int):Prop where
 top:TwN w lo t.t x.t o1
 low:TwN w lo t.l x.l o2
 ap:Xn t.t.a t.l.a
theorem TwN.kept {w w':World} {lo:Nat} {t x:NV} {o:Nat->Int} (h:TwN w lo t x o) (hk:∀ b,t.blk b->w'.heap[b]?=w.heap[b]?):TwN w' lo t x o:=⟨h.s,h.n,h.c,h.own.kept hk⟩
theorem TwN.Xq {w:World} {lo:Nat} {t x:NV} {o:Nat->Int} (h:TwN w lo t x o):∀ b,t.blk b->lo<=b/\b<w.heap.size:=fun b ⟨p,hp,e⟩=>by
 rcases h.own.place with h0 | ⟨g,cur,ha,hlo,hg,_⟩
 ·rw[h0.1] at hp;cases hp
 ·rw[ha] at hp
  cases hp
  subst e;exact⟨hlo,lt_of_block hg⟩
theorem TwN.below {w w':World} {lo:Nat} {t x:NV} {o:Nat->Int} (h:TwN w lo t x o) (hb:Below w.heap.size w w'):TwN w' lo t x o:=h.kept fun b h1=>hb.block b (h.Xq b h1).2
theorem TwN.mono {w:World} {lo lo':Nat} {t x:NV} {o:Nat->Int} (h:TwN w lo t x o) (hl:lo'<=lo):TwN w lo' t x o:=⟨h.s,h.n,h.c,h.own.mono hl⟩
theorem TwF.kept {w w':World} {lo:Nat} {t x:FV} {o1 o2:Nat->Int} (h:TwF w lo t x o1 o2) (hk:∀ b,FV.blk t b->w'.heap[b]?=w.heap[b]?):TwF w' lo t x o1 o2:=⟨h.top.kept fun b hb=>hk b (Or.inl hb),h.low.kept fun b hb=>hk b (Or.inr hb),h.ap⟩
theorem TwF.Xq {w:World} {lo:Nat} {t x:FV} {o1 o2:Nat->Int} (h:TwF w lo t x o1 o2):∀ b,FV.blk t b->lo<=b/\b<w.heap.size:=fun b hb=>hb.elim (h.top.Xq b) (h.low.Xq b)
theorem TwF.below {w w':World} {lo:Nat} {t x:FV} {o1 o2:Nat->Int} (h:TwF w lo t x o1 o2) (hb:Below w.heap.size w w'):TwF w' lo t x o1 o2:=⟨h.top.below hb,h.low.below hb,h.ap⟩
theorem TwF.mono {w:World} {lo lo':Nat} {t x:FV} {o1 o2:Nat->Int} (h:TwF w lo t x o1 o2) (hl:lo'<=lo):TwF w lo' t x o1 o2:=⟨h.top.mono hl,h.low.mono hl,h.ap⟩
theorem TwF.put {w:World} {lo:Nat} {t x:FV} {o1 o2:Nat->Int} (h:TwF w lo t x o1 o2) {b:Nat} (hb:∀ g,FV.blk t g->g≠b) (v0 v1 v2 v3 v4 v5 v6 v7:Value):TwF (Xp w b v0 v1 v2 v3 v4 v5 v6 v7) lo t x o1 o2:=by
 have h1:∀ (u:World) (i:Nat) (v:Value) (g:Nat),g≠b->(u.setCell ⟨b,i,none⟩ v).heap[g]?=u.heap[g]?:=fun u i v g hne=>Below.heap_setCell _ _ _ _ hne
 refine h.kept fun g hg=>?_
 have hne:=hb g hg;unfold Xp;rw[h1 _ _ _ _ hne,h1 _ _ _ _ hne,h1 _ _ _ _ hne,h1 _ _ _ _ hne,h1 _ _ _ _ hne,h1 _ _ _ _ hne,h1 _ _ _ _ hne,h1 _ _ _ _ hne]
theorem jgy (x:FV) (o1 o2:Nat->Int) (w:World) (h1:Rd w x.t.a x.t.n o1) (hn1:x.t.n<=100000000) (h2:Rd w x.l.a x.l.n o2) (hn2:x.l.n<=100000000) :
  Calls Tryz.prog 13 #[x.v] w fun e w'=>∃ y:FV,e=.returned y.v/\TwF w' w.heap.size y x o1 o2/\Below w.heap.size w w' :=
 (UU x.t.s x.t.a x.t.n x.t.c o1 x.l.s x.l.a x.l.n x.l.c o2 w h1 hn1 h2 hn2).mono fun e w' ⟨g1,g2,he,p1,p2,hne,hb⟩ =>
  ⟨⟨⟨x.t.s,some ⟨g1,0,none⟩,x.t.n,x.t.n+1⟩,⟨x.l.s,some ⟨g2,0,none⟩,x.l.n,x.l.n+1⟩⟩,he,⟨⟨rfl,rfl,rfl,p1⟩,⟨rfl,rfl,rfl,p2⟩,fun p q hp hq=>by cases hp;cases hq;exact hne⟩,hb⟩
theorem UY (t:TV) (o1 o2:Nat->Int) (w:World) (h1:Rd w t.c.t.a t.c.t.n o1) (hn1:t.c.t.n<=100000000) (h2:Rd w t.c.l.a t.c.l.n o2) (hn2:t.c.l.n<=100000000) :
  Calls Tryz.prog 67 #[TV.v t] w fun e w'=>∃ y:FV,e=.returned (TV.v ⟨y,t.m⟩)/\TwF w' w.heap.size y t.c o1 o2/\Below w.heap.size w w':=by
 obtain⟨V,hV⟩:∃ V,V=(w.alloc (.cells #[.bool t.c.t.s,.slice t.c.t.a t.c.t.n t.c.t.c,.bool t.c.l.s,.slice t.c.l.a t.c.l.n t.c.l.c,.int .u16 t.m.x,.int .u16 t.m.y,.int .u16 t.m.z,.int .u16 t.m.t] 71)).alloc (.cells #[.bool false,.slice none 0 0,.bool false,.slice none 0 0,.int .u16 0,.int .u16 0,.int .u16 0,.int .u16 0] 71):=⟨_,rfl⟩
 have hbV:Below w.heap.size w V:=by rw[hV];exact(zk.alloc zj _).alloc (by go_size) _
 have B1:=qh (show Bxs V w.heap.size 71 [.bool t.c.t.s,.slice t.c.t.a t.c.t.n t.c.t.c,.bool t.c.l.s,.slice t.c.l.a t.c.l.n t.c.l.c,.int .u16 t.m.x,.int .u16 t.m.y,.int .u16 t.m.z,.int .u16 t.m.t] by rw[hV];exact(Bxs.new w 71 [.bool t.c.t.s,.slice t.c.t.a t.c.t.n t.c.t.c,.bool t.c.l.s,.slice t.c.l.a t.c.l.n t.c.l.c,.int .u16 t.m.x,.int .u16 t.m.y,.int .u16 t.m.z,.int .u16 t.m.t]).alloc _)
 have B2:=qh (show Bxs V (w.heap.size+1) 71 [.bool false,.slice none 0 0,.bool false,.slice none 0 0,.int .u16 0,.int .u16 0,.int .u16 0,.int .u16 0] by
  have h:=Bxs.new (w.alloc (.cells #[.bool t.c.t.s,.slice t.c.t.a t.c.t.n t.c.t.c,.bool t.c.l.s,.slice t.c.l.a t.c.l.n t.c.l.c,.int .u16 t.m.x,.int .u16 t.m.y,.int .u16 t.m.z,.int .u16 t.m.t] 71)) 71 [.bool false,.slice none 0 0,.bool false,.slice none 0 0,.int .u16 0,.int .u16 0,.int .u16 0,.int .u16 0];rw[World.size_alloc] at h
  rw[hV];exact h)
 have HR1:=qh (h1.below hbV);have HR2:=qh (h2.below hbV);have HN1:=qh hn1;have HN2:=qh hn2;have KG:=qh hbV;have HV:=qh hV;obtain⟨A2,hA2⟩:∃ A,A=w.heap.size+1:=⟨_,rfl⟩;have HA2:=qh (show w.heap.size<=A2 by omega);rw[<- hA2] at B2;have HA3:=qh hA2;have HAV:=qh B2.o.lt;have HSZ:=qh KG.o.size;clear hV hbV h1 h2 hn1 hn2 hA2;change Calls Tryz.prog 67 #[.agg #[.bool t.c.t.s,.slice t.c.t.a t.c.t.n t.c.t.c,.bool t.c.l.s,.slice t.c.l.a t.c.l.n t.c.l.c,.int .u16 t.m.x,.int .u16 t.m.y,.int .u16 t.m.z,.int .u16 t.m.t]] w _;go_enter Tryz.func67,Tryz.ntmps67
 go_upto_region 1 with (fail)
 rw[show(w.alloc (.cells #[.bool t.c.t.s,.slice t.c.t.a t.c.t.n t.c.t.c,.bool t.c.l.s,.slice t.c.l.a t.c.l.n t.c.l.c,.int .u16 t.m.x,.int .u16 t.m.y,.int .u16 t.m.z,.int .u16 t.m.t] 71)).alloc (.cells #[.bool false,.slice none 0 0,.bool false,.slice none 0 0,.int .u16 0,.int .u16 0,.int .u16 0,.int .u16 0] 71)=V from HV.o.symm,show w.heap.size+1=A2 from HA3.o.symm]
 go_upto_region 1 with (fail)
 refine FS.Jb 6 [] (FS.JM [(2,FS.Sp.made (fun x:FV=>x.v) (fun x w'=>TwF w' V.heap.size x t.c o1 o2) FV.blk)])
  (fun w'=>Below V.heap.size V w') (by kernel_rfl) (by kernel_rfl) (by kernel_rfl)
  (FS.Jd (FS.Sp.Ji _ (fun _ _ _ h _ hk=>h.kept hk) (FS.Qe (by kernel_rfl))) (FS.Jk)) (fun _ _ h hb=>h.trans (hb.mono h.size)) (zk.drew) ?_
 simp only[zu,zi,ze,zx,zy,zv,zw]
 iterate 2
  refine FS.Jc rfl rfl rfl ?_ (fun w' hw'=>?_) ?_;rotate_left
  ·have hb':=hw'.world;have hs0:=(B1.o.bl hb').ce 0;have hs1:=(B1.o.bl hb').ce 1;have hs2:=(B1.o.bl hb').ce 2;have hs3:=(B1.o.bl hb').ce 3;have hs4:=(B1.o.bl hb').ce 4;have hs5:=(B1.o.bl hb').ce 5;have hs6:=(B1.o.bl hb').ce 6;have hs7:=(B1.o.bl hb').ce 7;have hsf:=(B1.o.bl hb').fz;have hsl:=(B1.o.bl hb').lt;clear hw';go_simp
   try rfl
  conv=>arg 10;simp only[Act.put,zq0,zq1,zq2]
 refine FS.Jg rfl rfl rfl (fun w' hw'=>?_) ?_
 ·have hb':=hw'.world;refine FS.Jp (FS.PM (fun x:FV=>x.v) (fun x w'=>TwF w' V.heap.size x t.c o1 o2) FV.blk w'.heap.size) ?_ (fun _ _ h=>h.post (fun _ _=>FV.inj));go_simp;have CT:=(show Calls Tryz.prog 13 #[.agg #[.bool t.c.t.s,.slice t.c.t.a t.c.t.n t.c.t.c,.bool t.c.l.s,.slice t.c.l.a t.c.l.n t.c.l.c]] w' _ from jgy t.c o1 o2 w' (HR1.o.below hb') HN1.o (HR2.o.below hb') HN2.o);refine CT.mono ?_;rintro e w'' ⟨za,rfl,ho,hb⟩;exact⟨_,rfl,⟨za,rfl,ho.mono hb'.size,ho.Xq⟩,hb⟩
 rintro _ ⟨y2,rfl⟩
 conv=>arg 10;simp only[Act.put,zq0,zq1,zq2]
 iterate 3
  refine FS.Jc rfl rfl rfl ?_ (fun w' hw'=>?_) ?_;rotate_left
  ·have hb':=hw'.world;have hs0:=(B1.o.bl hb').ce 0;have hs1:=(B1.o.bl hb').ce 1;have hs2:=(B1.o.bl hb').ce 2;have hs3:=(B1.o.bl hb').ce 3;have hs4:=(B1.o.bl hb').ce 4;have hs5:=(B1.o.bl hb').ce 5;have hs6:=(B1.o.bl hb').ce 6;have hs7:=(B1.o.bl hb').ce 7;have hsf:=(B1.o.bl hb').fz;have hsl:=(B1.o.bl hb').lt;clear hw';go_simp
   try rfl
  conv=>arg 10;simp only[Act.put,zq0,zq1,zq2]
 refine FS.Jn (fun w101 hb hF=>?_);have N102:=qh (show TwF w101 V.heap.size y2 t.c o1 o2 from(FS.QE (val:=(fun x:FV=>x.v)) (Φ:=fun x w'=>TwF w' V.heap.size x t.c o1 o2) (fun _ _=>FV.inj) (hF.all 2)));clear hF;have B1:=qh (B1.o.bl hb);have B2:=qh (B2.o.bl hb);have KG:=qk KG hb;clear hb;have HD:=qh (show TwF (Xp w101 A2 (.bool y2.t.s) (.slice y2.t.a y2.t.n y2.t.c) (.bool y2.l.s) (.slice y2.l.a y2.l.n y2.l.c) (.int .u16 t.m.x) (.int .u16 t.m.y) (.int .u16 t.m.z) (.int .u16 t.m.t)) w.heap.size y2 t.c o1 o2 from(N102.o.put (fun g hg=>by have:=(N102.o.Xq g hg).1;have:=HAV.o;omega) ..).mono HSZ.o);have HB:=qh (show Below w.heap.size w (Xp w101 A2 (.bool y2.t.s) (.slice y2.t.a y2.t.n y2.t.c) (.bool y2.l.s) (.slice y2.l.a y2.l.n y2.l.c) (.int .u16 t.m.x) (.int .u16 t.m.y) (.int .u16 t.m.z) (.int .u16 t.m.t)) from J5 KG.o HA2.o ..);have c20:=B2.o.ce 0;have c21:=B2.o.ce 1;have c22:=B2.o.ce 2;have c23:=B2.o.ce 3;have c24:=B2.o.ce 4;have c25:=B2.o.ce 5;have c26:=B2.o.ce 6;have c27:=B2.o.ce 7;have c2f:=B2.o.fz;have c2l:=B2.o.lt;go_wp2_with fail
 exact bodyPost_ret (Je rfl _ _ _ _ _ _ _ rfl (QC B2.o ..) Tryz.underlying71 rfl (by kernel_rfl)) rfl ⟨y2,rfl,HD.o,HB.o⟩
open Go.ChangeShapes Go.WideShapes Go.ChangeAt
structure FZ (x:FV) (z:Int):Prop where
 lo:0<=z
 hi:z<=1000000000000000
 is:z<=1000->x.t.n<=z.toNat/\x.l.n<=z.toNat
end Pol
namespace Book
open Go.RowKit Go.Sort Go.FreshG Limb Pol
def Ql:List TV->Nat->List HL
 | [],_=>[]
 | t :: r,q=>⟨t.c.t.a,t.c.t.n,t.c.t.c,q⟩ :: ⟨t.c.l.a,t.c.l.n,t.c.l.c,q+1⟩ :: Ql r (q+2)
theorem Zl:∀ (ts:List TV) (q:Nat),(Ql ts q).length=2*ts.length
 | [],_=>rfl
 | t :: r,q=>by
  show(Ql r (q+2)).length+1+1=2*(r.length+1);rw[Zl r (q+2)];omega
theorem Yz:∀ (ts:List TV) (t:TV) (q:Nat),Ql (ts++[t]) q=Ql ts q++[⟨t.c.t.a,t.c.t.n,t.c.t.c,q+2*ts.length⟩]++[⟨t.c.l.a,t.c.l.n,t.c.l.c,q+2*ts.length+1⟩]
 | [],t,q=>rfl
 | s :: r,t,q=>by
  show(⟨s.c.t.a,s.c.t.n,s.c.t.c,q⟩:HL) :: ⟨s.c.l.a,s.c.l.n,s.c.l.c,q+1⟩ :: Ql (r++[t]) (q+2)=⟨s.c.t.a,s.c.t.n,s.c.t.c,q⟩ :: ⟨s.c.l.a,s.c.l.n,s.c.l.c,q+1⟩ :: (Ql r (q+2)++[_]++[_]);rw[Yz r t (q+2),List.length_cons,show q+2+2*r.length=q+2*(r.length+1) by omega]
theorem RE.Zj {base:Nat} {w w':World} {b o i:Nat} {t:TV} (h:RE w b o i t) (hk:QK base w w') (hb:b<base):RE w' b o i t :=
 ⟨Nat.lt_of_lt_of_le h.lt hk.bel.size,fun j v hj=>(World.cell?_of_block (a:=⟨b,o+i*8+j,none⟩) (hk.bel.block b hb)).trans (h.cell j v hj)⟩
theorem BkS.term {w:World} {b base q:Nat} {L M:List HL} (h:BkS w b base q L M) (hk:L.length<=29990) (hq:q<=59990) (t:TV) :
  Calls Tryz.prog 45 #[.pointer (some ⟨b,0,none⟩),TV.v t] w (Y8 b base (q+2) (fracL L q t.c.t.a t.c.t.n t.c.t.c t.c.l.a t.c.l.n t.c.l.c) M w):=by
 obtain⟨V,hV⟩:∃ V,V=w.alloc (.cells #[.bool t.c.t.s,.slice t.c.t.a t.c.t.n t.c.t.c,.bool t.c.l.s,.slice t.c.l.a t.c.l.n t.c.l.c,.int .u16 t.m.x,.int .u16 t.m.y,.int .u16 t.m.z,.int .u16 t.m.t] 71):=⟨_,rfl⟩;have HS:=qh (show BkS V b base q L M by rw[hV];exact h.alloc _);have HA:=qh (show QK base w V by rw[hV];exact QK.alloc h.hw _);have B3:=qh (show Bxs V w.heap.size 71 [.bool t.c.t.s,.slice t.c.t.a t.c.t.n t.c.t.c,.bool t.c.l.s,.slice t.c.l.a t.c.l.n t.c.l.c,.int .u16 t.m.x,.int .u16 t.m.y,.int .u16 t.m.z,.int .u16 t.m.t] by rw[hV];exact Bxs.new w 71 [.bool t.c.t.s,.slice t.c.t.a t.c.t.n t.c.t.c,.bool t.c.l.s,.slice t.c.l.a t.c.l.n t.c.l.c,.int .u16 t.m.x,.int .u16 t.m.y,.int .u16 t.m.z,.int .u16 t.m.t]);have HV:=qh hV;have K:=qh (HS.o.frac hk hq t.c.t.s t.c.t.a t.c.t.n t.c.t.c t.c.l.s t.c.l.a t.c.l.n t.c.l.c);clear h hk hq hV;change Calls Tryz.prog 45 #[.pointer (some ⟨b,0,none⟩),.agg #[.bool t.c.t.s,.slice t.c.t.a t.c.t.n t.c.t.c,.bool t.c.l.s,.slice t.c.l.a t.c.l.n t.c.l.c,.int .u16 t.m.x,.int .u16 t.m.y,.int .u16 t.m.z,.int .u16 t.m.t]] w _;go_enter Tryz.func45,Tryz.ntmps45
 go_upto_region 1 with (fail)
 rw[show w.alloc (.cells #[.bool t.c.t.s,.slice t.c.t.a t.c.t.n t.c.t.c,.bool t.c.l.s,.slice t.c.l.a t.c.l.n t.c.l.c,.int .u16 t.m.x,.int .u16 t.m.y,.int .u16 t.m.z,.int .u16 t.m.t] 71)=V from HV.o.symm];have c0:=B3.o.ce 0;have c1:=B3.o.ce 1;have c2:=B3.o.ce 2;have c3:=B3.o.ce 3;go_wp2_with fail
 refine K.o.mono ?_;rintro e w1 ⟨⟨r,rfl⟩,h⟩;have H:=qh h;clear h c0 c1 c2 c3;go_wp2_with fail
 (try simp only[Exit.inBlock,Exit.then])
 refine bodyPost_end (results_none rfl _ _ _) rfl ?_;exact⟨⟨_,rfl⟩,H.o.1,HA.o.trans H.o.2⟩
theorem BkS.poly {w:World} {b base q:Nat} {L M:List HL} (h:BkS w b base q L M) (x:PV) (ts:List TV) (hr:RT w x.a ts) (hn:ts.length=x.n) (hfar:∀ p,x.a=some p->p.block<base) (hk:L.length+2*x.n<=29990) (hq:q+2*x.n<=59990) (hm:M.length<=30000) :
  Calls Tryz.prog 23 #[.pointer (some ⟨b,0,none⟩),x.v] w (Y8 b base (q+2*x.n+1) (L++Ql ts q) (M++[⟨x.a,x.n,x.c,q+2*x.n⟩]) w):=by
 obtain⟨xa,xn,xc⟩:=x;have HS:=qh h;have HR:=qh (show RT w xa ts from hr);have HN:=qh (show ts.length=xn from hn);have HF:=qh hfar;have HK:=qh (show L.length+2*xn<=29990 from hk);have HQ:=qh (show q+2*xn<=59990 from hq);have HM:=qh hm;clear h hr hn hfar hk hq hm;change Calls Tryz.prog 23 #[.pointer (some ⟨b,0,none⟩),.slice xa xn xc] w _;go_enter Tryz.func23,Tryz.ntmps23;go_wp2_with fail
 go_loopw [4] (fun i wr=>∃ j:Nat,j<=xn/\i=.int .i64 j/\BkS wr b base (q+2*j) (L++Ql (ts.take j) q) M/\QK base w wr) (fun i _=>xn-(intOf i).toNat)
 case atStart=>exact⟨0,Nat.zero_le _,rfl,by simpa[Ql] using HS.o,QK.refl _ _⟩
 case round =>
  obtain⟨j,hj,rfl,hs,hkb⟩:=hrel;have HJ:=qh hj;have HS:=qh hs;have KB:=qh hkb;clear hj hs hkb;by_cases hjn:j<xn
  ·have HJN:=qh hjn
   have hlt:(j:Int)<(xn:Int):=by omega
   obtain⟨t,ht⟩:∃ t,ts[j]?=some t:=⟨_,List.getElem?_eq_getElem (by rw[HN.o];exact hjn)⟩;obtain⟨pb,po,rfl,hre⟩:=HR.o.one (fun e=>by rw[e] at ht;simp at ht);have HT:=qh ht;have E1:=qh (RE.Zj (hre j t ht) KB.o (HF.o _ rfl));have ek:IntKind.i64.wrap ((j:Int)+1)=(j:Int)+1:=IntWalk.i64_in _ (by have:=HJN.o;have:=HK.o;omega)
   have hll:(ts.take j).length=j:=by rw[List.length_take,HN.o];omega
   have HLL:=qh hll;have CT:=qh (show Calls Tryz.prog 45 #[.pointer (some ⟨b,0,none⟩),.agg #[.bool t.c.t.s,.slice t.c.t.a t.c.t.n t.c.t.c,.bool t.c.l.s,.slice t.c.l.a t.c.l.n t.c.l.c,.int .u16 t.m.x,.int .u16 t.m.y,.int .u16 t.m.z,.int .u16 t.m.t]] wr _ from HS.o.term (by rw[List.length_append,Zl,hll];have:=HJN.o;have:=HK.o;omega) (by have:=HJN.o;have:=HQ.o;omega) t);obtain⟨c0,c1,c2,c3,c4,c5,c6,c7⟩:=E1.o.eight;clear hjn ht hre hll;go_wp2_with fail
   with_reducible refine CT.o.mono ?_
   rintro e w1 ⟨⟨r,rfl⟩,hs,hk⟩
   have HS2:=qh (show BkS w1 b base (q+2*(j+1)) (L++Ql (ts.take (j+1)) q) M by
    rw[List.take_add_one,HT.o];show BkS w1 b base (q+2*(j+1)) (L++Ql (ts.take j++[t]) q) M;rw[Yz,HLL.o,<- List.append_assoc,<- List.append_assoc]
    exact hs)
   have KB:=qh (KB.o.trans hk);clear hs hk CT c0 c1 c2 c3 c4 c5 c6 c7;go_wp2_with fail
   go_roundw
   case rel=>exact⟨j+1,HJN.o,rfl,HS2.o,KB.o⟩
   case measure=>simp[intOf];have:=HJN.o;omega
  ·have hge:¬((j:Int)<(xn:Int)):=by omega
   obtain rfl:j=xn:=by have:=HJ.o;omega
   have HAL:=qh (show ts.take j=ts from List.take_of_length_le (by rw[HN.o];exact zj));have HS2:=qh (show BkS wr b base (q+2*j) (L++Ql ts q) M by rw[<- HAL.o];exact HS.o);have K:=qh (HS2.o.keepT HM.o (by have:=HQ.o;omega) xa j xc);clear hjn;go_wp2_with fail
   refine K.o.mono ?_;rintro e w1 ⟨⟨r,rfl⟩,h⟩;have H:=qh h;clear h;go_wp2_with fail
   (try simp only[Exit.inBlock,Exit.then])
   refine bodyPost_end (results_none rfl _ _ _) rfl ?_;exact⟨⟨_,rfl⟩,H.o.1,KB.o.trans H.o.2⟩
end Book
namespace Pol
open Go.RowKit Go.Sort Limb
def moF (m:Mo):Nat->Int:=fun i=>((m.at i:Nat):Int)
theorem Qp {m:Mo} (h:m.Small):Mono.Small (moF m):=fun i _=>⟨Int.natCast_nonneg _,by have:=at_small h i;unfold moF;omega⟩
theorem KH (a b:Mo) (i:Nat):moF (a.mul b) i=moF a i+moF b i:=by unfold moF;rw[at_mul];omega
def Xa (o:Int) (m:Mo):Int:=Mono.KO o (moF m)
theorem jcj (o:Int):Key 65535 (Xa o) where
 add a b ha hb hab:=by
  have hB:Mono.mulB (moF a) (moF b)=true:=decide_eq_true (by
   obtain⟨h1,h2,h3,h4⟩:=hab;rw[<- KH,<- KH,<- KH,<- KH];show((a.mul b).x:Int)<=65535/\((a.mul b).y:Int)<=65535/\((a.mul b).z:Int)<=65535/\((a.mul b).t:Int)<=65535
   omega)
  have h:=Mono.KO_mul (o:=o) hB;unfold Xa;rw[<- h]
  congr 1
  funext i;unfold Mono.mulM;rw[if_pos hB,KH]
 inj a b ha hb h:=by
  have h1:=(Mono.KO_same (Qp (show a.Small from ha)) (Qp (show b.Small from hb))).1 h;rw[Mo.eq_iff]
  have g:=fun k hk=>Int.ofNat.inj (show((a.at k:Nat):Int)=((b.at k:Nat):Int) from h1 k hk)
  exact⟨g 0 (by omega),g 1 (by omega),g 2 (by omega),g 3 (by omega)⟩
theorem Zf {a b:Int}:Mono.Js a b>0↔b<a:=by
 rcases Int.lt_trichotomy a b with h | h | h
 ·rw[Mono.JK h];omega
 ·rw[Mono.JX h];omega
 ·rw[Mono.JO h];omega
theorem max_any (G:Nat) (cs:Array Value) (x:PV) (ts:List TV) (K:Mo->Int) (w:World) (hr:RT w x.a ts) (hl:ts.length=x.n) (hn:x.n<=1000000) (hne:ts≠[]) (hs:∀ t∈ts,t.m.Small)
  (hcf:∀ (args:Array Value) (w:World),(callFunc G args).run Tryz.prog w=.ok (.enter G args) w)
  (hF:∀ t u:TV,t.m.Small->u.m.Small->∀ w1,Below w.heap.size w w1->Calls Tryz.prog G (#[TV.v t,TV.v u]++cs) w1 fun e w'=>e=.returned (.int .i64 (Mono.Js (K t.m) (K u.m)))/\Below w1.heap.size w1 w') :
  Calls Tryz.prog 148 #[x.v,.func (.func G) #[] cs] w fun e w'=>∃ t,t∈ts/\(∀ u∈ts,K u.m<=K t.m)/\e=.returned (TV.v t)/\Below w.heap.size w w':=by
 obtain⟨xa,xn,xc⟩:=x;change Calls Tryz.prog 148 #[.slice xa xn xc,.func (.func G) #[] cs] w _;have HL:=qh (show ts.length=xn from hl);have HN:=qh (show xn<=1000000 from hn);have HS:=qh hs;have HF:=qh hF;obtain⟨pb,po,rfl,hc⟩:=RT.one hr hne;have HE:=qh hc;have HP:=qh (show 0<xn by rw[<- HL.o];exact List.length_pos_iff.2 hne);obtain⟨t0,ht0⟩:∃ t,ts[0]?=some t:=⟨_,List.getElem?_eq_getElem (List.length_pos_iff.2 hne)⟩;have HT0:=qh ht0
 have h1:¬((xn:Int)<1):=by have:=HP.o;omega
 obtain⟨V,hV⟩:∃ V,V=w.alloc (.cells #[.bool false,.slice none 0 0,.bool false,.slice none 0 0,.int .u16 0,.int .u16 0,.int .u16 0,.int .u16 0] 71):=⟨_,rfl⟩
 have hbV:Below w.heap.size w V:=by rw[hV];exact zk.alloc zj _
 have B4:=qh (show Bxs V w.heap.size 71 [.bool false,.slice none 0 0,.bool false,.slice none 0 0,.int .u16 0,.int .u16 0,.int .u16 0,.int .u16 0] by rw[hV];exact Bxs.new w 71 [.bool false,.slice none 0 0,.bool false,.slice none 0 0,.int .u16 0,.int .u16 0,.int .u16 0,.int .u16 0]);have E0:=qh ((hc 0 t0 ht0).below hbV);have KG:=qh hbV;have HV:=qh hV
 have HP0:(0:Int)<(xn:Int):=by have:=HP.o;omega
 clear hr hl hn hs hF hc ht0 hV hbV;go_enter Tryz.func148,Tryz.ntmps148
 go_upto_region 1 with (fail)
 rw[show w.alloc (.cells #[.bool false,.slice none 0 0,.bool false,.slice none 0 0,.int .u16 0,.int .u16 0,.int .u16 0,.int .u16 0] 71)=V from HV.o.symm];obtain⟨c0,c1,c2,c3,c4,c5,c6,c7⟩:=E0.o.eight;simp only[Nat.zero_mul,Nat.add_zero] at c0 c1 c2 c3 c4 c5 c6 c7
 go_upto_region 4 with (fail)
 obtain⟨U,hU⟩:∃ U,U=V.alloc (.cells #[.bool t0.c.t.s,.slice t0.c.t.a t0.c.t.n t0.c.t.c,.bool t0.c.l.s,.slice t0.c.l.a t0.c.l.n t0.c.l.c,.int .u16 t0.m.x,.int .u16 t0.m.y,.int .u16 t0.m.z,.int .u16 t0.m.t] 71):=⟨_,rfl⟩
 have hbU:Below V.heap.size V U:=by rw[hU];exact zk.alloc zj _
 have B5:=qh (show Bxs U V.heap.size 71 [.bool t0.c.t.s,.slice t0.c.t.a t0.c.t.n t0.c.t.c,.bool t0.c.l.s,.slice t0.c.l.a t0.c.l.n t0.c.l.c,.int .u16 t0.m.x,.int .u16 t0.m.y,.int .u16 t0.m.z,.int .u16 t0.m.t] by rw[hU];exact Bxs.new V 71 [.bool t0.c.t.s,.slice t0.c.t.a t0.c.t.n t0.c.t.c,.bool t0.c.l.s,.slice t0.c.l.a t0.c.l.n t0.c.l.c,.int .u16 t0.m.x,.int .u16 t0.m.y,.int .u16 t0.m.z,.int .u16 t0.m.t]);obtain⟨A1,hA1⟩:∃ A,A=w.heap.size:=⟨_,rfl⟩;obtain⟨A2,hA2⟩:∃ A,A=V.heap.size:=⟨_,rfl⟩;have HA1:=qh (show w.heap.size<=A1 by omega);have HA2:=qh (show w.heap.size<=A2 by rw[hA2];exact KG.o.size);have HNE:=qh (show A1≠A2 by have:=B4.o.lt;omega);have B4:=qh (B4.o.bl hbU);have KG:=qk KG hbU;rw[<- hU,<- hA2,<- hA1];rw[<- hA2] at B5;rw[<- hA1] at B4;clear hU hbU hA1 hA2 c0 c1 c2 c3 c4 c5 c6 c7 h1 HP0;go_wp2_with fail
 go_loopw [6] (fun i wr=>∃ (j:Nat) (t:TV),1<=j/\j<=xn/\i=.int .i64 j/\t∈ts/\(∀ i u,ts[i]?=some u->i<j->K u.m<=K t.m)/\Bxs wr A2 71 [.bool t.c.t.s,.slice t.c.t.a t.c.t.n t.c.t.c,.bool t.c.l.s,.slice t.c.l.a t.c.l.n t.c.l.c,.int .u16 t.m.x,.int .u16 t.m.y,.int .u16 t.m.z,.int .u16 t.m.t]/\Bxs wr A1 71 [.bool false,.slice none 0 0,.bool false,.slice none 0 0,.int .u16 0,.int .u16 0,.int .u16 0,.int .u16 0]/\Below w.heap.size w wr) (fun i _=>xn-(intOf i).toNat)
 case atStart =>
  refine⟨1,t0,zj,HP.o,rfl,List.mem_of_getElem? HT0.o,fun i u h1 h2=>?_,B5.o,B4.o,KG.o⟩
  obtain rfl:i=0:=by omega
  rw[HT0.o] at h1;obtain rfl:=Option.some.inj h1;exact Int.le_refl _
 case round =>
  obtain⟨j,t,hj1,hj,rfl,hmem,hmax,hB5,hB4,hb0⟩:=hrel;have HJ1:=qh hj1;have HJ:=qh hj;have HME:=qh hmem;have HMX:=qh hmax;have B5:=qh hB5;have B4:=qh hB4;have KG:=qh hb0;clear hj1 hj hmem hmax hB5 hB4 hb0;by_cases hjn:j<xn
  ·have HJN:=qh hjn;obtain⟨u,hu⟩:∃ u,ts[j]?=some u:=⟨_,List.getElem?_eq_getElem (by rw[HL.o];exact hjn)⟩;have HU:=qh hu;have E1:=qh ((HE.o j u hu).below KG.o);have HST:=qh (HS.o t HME.o);have HSU:=qh (HS.o u (List.mem_of_getElem? hu));obtain⟨cv,hcv⟩:∃ c,c=Mono.Js (K u.m) (K t.m):=⟨_,rfl⟩;have HCV:=qh hcv;have ek:IntKind.i64.wrap ((j:Int)+1)=(j:Int)+1:=IntWalk.i64_in _ (by have:=HJN.o;have:=HN.o;omega);clear hu hcv
   go_upto_region 7 with (fail)
   refine FS.Jb 7 [] (FS.JM [(6,FS.Sp.know (.int .i64 cv))])
    (fun w'=>Below wr.heap.size wr w') (by kernel_rfl) (by kernel_rfl) (by kernel_rfl)
    (FS.Jd (FS.Sp.Jl _ _) (FS.Jk)) (fun _ _ h hb=>h.trans (hb.mono h.size)) (zk.drew) ?_
   simp only[zu,zi,ze,zx,zy,zv,zw]
   iterate 6
    refine FS.Jc rfl rfl rfl ?_ (fun w' hw'=>?_) ?_;rotate_left
    ·have hb':=hw'.world;obtain⟨hs0,hs1,hs2,hs3,hs4,hs5,hs6,hs7⟩:=(E1.o.below hb').eight;have hs0:=(B5.o.bl hb').ce 0;have hs1:=(B5.o.bl hb').ce 1;have hs2:=(B5.o.bl hb').ce 2;have hs3:=(B5.o.bl hb').ce 3;have hs4:=(B5.o.bl hb').ce 4;have hs5:=(B5.o.bl hb').ce 5;have hs6:=(B5.o.bl hb').ce 6;have hs7:=(B5.o.bl hb').ce 7;have hsf:=(B5.o.bl hb').fz;have hsl:=(B5.o.bl hb').lt;clear hw';go_simp
     try rfl
    conv=>arg 10;simp only[Act.put,zq0,zq1,zq2]
   refine FS.Jg rfl rfl rfl (fun w' hw'=>?_) ?_
   ·have hb':=hw'.world;refine FS.Jp (FS.PK (.int .i64 cv)) ?_ (fun _ _ h=>h.post);go_simp;have CT:=HF.o u t HSU.o HST.o w' (KG.o.trans (hb'.mono KG.o.size));rw[show Mono.Js (K u.m) (K t.m)=cv from HCV.o.symm] at CT;refine CT.mono ?_;rintro e w'' ⟨rfl,hb⟩;exact⟨_,rfl,rfl,hb⟩
   rintro _ rfl
   conv=>arg 10;simp only[Act.put,zq0,zq1,zq2]
   refine FS.Jn (fun w101 hb hF=>?_);clear hF;have B5:=qh (B5.o.bl hb);have B4:=qh (B4.o.bl hb);have KG:=qk KG hb;clear hb;by_cases hcp:cv>0
   ·have hcq:0<cv:=hcp;have HCP:=qh hcp;have E1:=qh ((HE.o j u HU.o).below KG.o);obtain⟨c0,c1,c2,c3,c4,c5,c6,c7⟩:=E1.o.eight;have cf:=B5.o.fz;have cl:=B5.o.lt;have c50:=B5.o.ce 0;have c51:=B5.o.ce 1;have c52:=B5.o.ce 2;have c53:=B5.o.ce 3;have c54:=B5.o.ce 4;have c55:=B5.o.ce 5;have c56:=B5.o.ce 6;have c57:=B5.o.ce 7;go_wp2_with fail
    go_roundw
    case rel =>
     refine⟨j+1,u,by omega,by have:=HJN.o;omega,rfl,List.mem_of_getElem? HU.o,fun i v h1 h2=>?_,QC B5.o ..,?_,J5 KG.o HA2.o ..⟩
     ·have h3:K t.m<K u.m:=Zf.1 (by rw[<- HCV.o];exact HCP.o);by_cases h4:i<j
      ·have:=HMX.o i v h1 h4;omega
      ·obtain rfl:i=j:=by omega
       rw[HU.o] at h1;obtain rfl:=Option.some.inj h1;exact Int.le_refl _
     ·exact((((((((B4.o.other HNE.o _).other HNE.o _).other HNE.o _).other HNE.o _).other HNE.o _).other HNE.o _).other HNE.o _).other HNE.o _)
    case measure=>simp[intOf];have:=HJN.o;omega
   ·have hcq:¬(0<cv):=hcp;have HCP:=qh hcp;go_wp2_with fail
    go_roundw
    case rel =>
     refine⟨j+1,t,by omega,by have:=HJN.o;omega,rfl,HME.o,fun i v h1 h2=>?_,B5.o,B4.o,KG.o⟩;by_cases h4:i<j
     ·exact HMX.o i v h1 h4
     ·obtain rfl:i=j:=by omega
      rw[HU.o] at h1;obtain rfl:=Option.some.inj h1
      have h3:¬(K t.m<K u.m):=fun h=>HCP.o (by rw[HCV.o];exact Zf.2 h)
      omega
    case measure=>simp[intOf];have:=HJN.o;omega
  ·have hge:¬((j:Int)<(xn:Int)):=by omega
   have HJE:=qh (show j=xn by have:=HJ.o;omega);clear hjn;have c0:=B5.o.ce 0;have c1:=B5.o.ce 1;have c2:=B5.o.ce 2;have c3:=B5.o.ce 3;have c4:=B5.o.ce 4;have c5:=B5.o.ce 5;have c6:=B5.o.ce 6;have c7:=B5.o.ce 7;have cf:=B4.o.fz;have cl:=B4.o.lt;have c40:=B4.o.ce 0;have c41:=B4.o.ce 1;have c42:=B4.o.ce 2;have c43:=B4.o.ce 3;have c44:=B4.o.ce 4;have c45:=B4.o.ce 5;have c46:=B4.o.ce 6;have c47:=B4.o.ce 7;go_wp2_with fail
   refine bodyPost_ret (Je rfl _ _ _ _ _ _ _ rfl (QC B4.o ..) Tryz.underlying71 rfl (by kernel_rfl)) rfl ⟨t,HME.o,fun u hu=>?_,rfl,J5 KG.o HA1.o ..⟩;obtain⟨i,h⟩:=List.mem_iff_getElem?.1 hu;exact HMX.o i u h (by have h8:=(List.getElem?_eq_some_iff.1 h).1;have h5:=HL.o;have h9:=HJE.o;omega)
theorem jgz (o:Int) (t u:TV) (w:World) (bo:Nat) (hb:Bxs w bo 66 [.int .u8 o]) (ht:t.m.Small) (hu:u.m.Small) :
  Calls Tryz.prog 149 #[TV.v t,TV.v u,.pointer (some ⟨bo,0,none⟩)] w fun e w'=>e=.returned (.int .i64 (Mono.Js (Xa o t.m) (Xa o u.m)))/\Below w.heap.size w w':=by
 obtain⟨V,hV⟩:∃ V,V=(w.alloc (.cells #[.bool t.c.t.s,.slice t.c.t.a t.c.t.n t.c.t.c,.bool t.c.l.s,.slice t.c.l.a t.c.l.n t.c.l.c,.int .u16 t.m.x,.int .u16 t.m.y,.int .u16 t.m.z,.int .u16 t.m.t] 71)).alloc (.cells #[.bool u.c.t.s,.slice u.c.t.a u.c.t.n u.c.t.c,.bool u.c.l.s,.slice u.c.l.a u.c.l.n u.c.l.c,.int .u16 u.m.x,.int .u16 u.m.y,.int .u16 u.m.z,.int .u16 u.m.t] 71):=⟨_,rfl⟩
 have hbV:Below w.heap.size w V:=by rw[hV];exact(zk.alloc zj _).alloc (by go_size) _
 have B1:=qh (show Bxs V w.heap.size 71 [.bool t.c.t.s,.slice t.c.t.a t.c.t.n t.c.t.c,.bool t.c.l.s,.slice t.c.l.a t.c.l.n t.c.l.c,.int .u16 t.m.x,.int .u16 t.m.y,.int .u16 t.m.z,.int .u16 t.m.t] by rw[hV];exact(Bxs.new w 71 [.bool t.c.t.s,.slice t.c.t.a t.c.t.n t.c.t.c,.bool t.c.l.s,.slice t.c.l.a t.c.l.n t.c.l.c,.int .u16 t.m.x,.int .u16 t.m.y,.int .u16 t.m.z,.int .u16 t.m.t]).alloc _)
 have B2:=qh (show Bxs V (w.heap.size+1) 71 [.bool u.c.t.s,.slice u.c.t.a u.c.t.n u.c.t.c,.bool u.c.l.s,.slice u.c.l.a u.c.l.n u.c.l.c,.int .u16 u.m.x,.int .u16 u.m.y,.int .u16 u.m.z,.int .u16 u.m.t] by
  have h:=Bxs.new (w.alloc (.cells #[.bool t.c.t.s,.slice t.c.t.a t.c.t.n t.c.t.c,.bool t.c.l.s,.slice t.c.l.a t.c.l.n t.c.l.c,.int .u16 t.m.x,.int .u16 t.m.y,.int .u16 t.m.z,.int .u16 t.m.t] 71)) 71 [.bool u.c.t.s,.slice u.c.t.a u.c.t.n u.c.t.c,.bool u.c.l.s,.slice u.c.l.a u.c.l.n u.c.l.c,.int .u16 u.m.x,.int .u16 u.m.y,.int .u16 u.m.z,.int .u16 u.m.t];rw[World.size_alloc] at h
  rw[hV];exact h)
 have BO:=qh (hb.below hbV hb.lt);have KG:=qh hbV;have HV:=qh hV;have CM:=qh (show Calls Tryz.prog 150 #[.int .u8 o,Mo.v t.m,Mo.v u.m] V _ from Mono.Kw o (moF t.m) (moF u.m) V (Qp ht) (Qp hu));have HK:=qh (Mono.jet (o:=o) (Qp ht) (Qp hu));clear hV hbV hb ht hu;change Calls Tryz.prog 149 #[.agg #[.bool t.c.t.s,.slice t.c.t.a t.c.t.n t.c.t.c,.bool t.c.l.s,.slice t.c.l.a t.c.l.n t.c.l.c,.int .u16 t.m.x,.int .u16 t.m.y,.int .u16 t.m.z,.int .u16 t.m.t],.agg #[.bool u.c.t.s,.slice u.c.t.a u.c.t.n u.c.t.c,.bool u.c.l.s,.slice u.c.l.a u.c.l.n u.c.l.c,.int .u16 u.m.x,.int .u16 u.m.y,.int .u16 u.m.z,.int .u16 u.m.t],.pointer (some ⟨bo,0,none⟩)] w _;go_enter Tryz.func149,Tryz.ntmps149
 go_upto_region 1 with (fail)
 rw[show(w.alloc (.cells #[.bool t.c.t.s,.slice t.c.t.a t.c.t.n t.c.t.c,.bool t.c.l.s,.slice t.c.l.a t.c.l.n t.c.l.c,.int .u16 t.m.x,.int .u16 t.m.y,.int .u16 t.m.z,.int .u16 t.m.t] 71)).alloc (.cells #[.bool u.c.t.s,.slice u.c.t.a u.c.t.n u.c.t.c,.bool u.c.l.s,.slice u.c.l.a u.c.l.n u.c.l.c,.int .u16 u.m.x,.int .u16 u.m.y,.int .u16 u.m.z,.int .u16 u.m.t] 71)=V from HV.o.symm];have c10:=B1.o.ce 0;have c11:=B1.o.ce 1;have c12:=B1.o.ce 2;have c13:=B1.o.ce 3;have c14:=B1.o.ce 4;have c15:=B1.o.ce 5;have c16:=B1.o.ce 6;have c17:=B1.o.ce 7;have c20:=B2.o.ce 0;have c21:=B2.o.ce 1;have c22:=B2.o.ce 2;have c23:=B2.o.ce 3;have c24:=B2.o.ce 4;have c25:=B2.o.ce 5;have c26:=B2.o.ce 6;have c27:=B2.o.ce 7;have co:=BO.o.ce 0;go_wp2_with fail
 with_reducible refine CM.o.mono ?_
 rintro e w1 ⟨rfl,hb⟩;have KG:=qk KG hb;clear hb CM c10 c11 c12 c13 c14 c15 c16 c17 c20 c21 c22 c23 c24 c25 c26 c27 co;go_wp2_with fail
 go_ret;refine⟨?_,KG.o⟩;rw[HK.o];rfl
theorem lead_k (o:Int) (x:PV) (P:List Tm) (w:World) (hx:AP w x P) (hp:∀ t∈P,LQ t.2 900000) (hn:x.n<=1000000) (hne:P≠[]) :
  Calls Tryz.prog 37 #[.int .u8 o,x.v] w fun e w'=>∃ (y:FV) (t:Tm),e=.returned (.tuple #[TV.v ⟨y,t.1⟩,.bool true])/\DF w' w.heap.size y t.2/\VI (Xa o) P t/\Below w.heap.size w w':=by
 obtain⟨V0,hV⟩:∃ V,V=(w.alloc (.cells #[.int .u8 o] 66)).alloc (.cells #[.bool false,.slice none 0 0,.bool false,.slice none 0 0,.int .u16 0,.int .u16 0,.int .u16 0,.int .u16 0] 71):=⟨_,rfl⟩
 have hbV:Below w.heap.size w V0:=by rw[hV];exact(zk.alloc zj _).alloc (by go_size) _
 have BO:=qh (show Bxs V0 w.heap.size 66 [.int .u8 o] by rw[hV];exact(Bxs.new w 66 [.int .u8 o]).alloc _)
 have B4:=qh (show Bxs V0 (w.heap.size+1) 71 [.bool false,.slice none 0 0,.bool false,.slice none 0 0,.int .u16 0,.int .u16 0,.int .u16 0,.int .u16 0] by
  have h:=Bxs.new (w.alloc (.cells #[.int .u8 o] 66)) 71 [.bool false,.slice none 0 0,.bool false,.slice none 0 0,.int .u16 0,.int .u16 0,.int .u16 0,.int .u16 0];rw[World.size_alloc] at h
  rw[hV];exact h)
 have OF:=qh (of_at hx hbV hp (by omega));have HP:=qh hp;have HN:=qh hn;have HNE:=qh hne;have KG:=qh hbV;have HV:=qh hV;obtain⟨A4,hA4⟩:∃ A,A=w.heap.size+1:=⟨_,rfl⟩;have HA4:=qh (show w.heap.size<=A4 by omega);rw[<- hA4] at B4;have HA5:=qh hA4;obtain⟨xa,xn,xc⟩:=x;change Calls Tryz.prog 37 #[.int .u8 o,.slice xa xn xc] w _;clear hV hbV hx hp hn hne hA4;go_enter Tryz.func37,Tryz.ntmps37
 go_upto_region 1 with (fail)
 rw[show(w.alloc (.cells #[.int .u8 o] 66)).alloc (.cells #[.bool false,.slice none 0 0,.bool false,.slice none 0 0,.int .u16 0,.int .u16 0,.int .u16 0,.int .u16 0] 71)=V0 from HV.o.symm,show w.heap.size+1=A4 from HA5.o.symm];go_wp2_with fail
 with_reducible refine OF.o.mono ?_
 rintro e w1 ⟨⟨pa,pn,pc⟩,he,hkp,hpn,hb⟩;obtain rfl:e=.returned (.slice pa pn pc):=he;have BO:=qh (BO.o.bl hb);have B4:=qh (B4.o.bl hb);have KG:=qk KG hb;have HX:=qh hkp;obtain⟨L,g1,g2,g3,g4⟩:=hkp.ex;have g2:L.length=pn:=g2
 have hlne:L≠[]:=fun h=>HNE.o (by rw[<- g4,h];rfl)
 have hne2:L.map Prod.fst≠[]:=fun h=>hlne (List.map_eq_nil_iff.1 h)
 have h0:¬((pn:Int)=0):=by have:=List.length_pos_iff.2 hlne;omega
 have T1:=qh g4;have F1:=qh g3
 have hcf:∀ (args:Array Value) (w:World),(callFunc 149 args).run Tryz.prog w=.ok (.enter 149 args) w:=fun _ _=>by kernel_rfl
 have MX:=qh (max_any 149 #[.pointer (some ⟨w.heap.size,0,none⟩)] ⟨pa,pn,pc⟩ (L.map Prod.fst) (Xa o) w1 (g1.below KG.o) (by rw[List.length_map];exact g2) (zm hpn HN.o) hne2
  (fun t ht=>by
   obtain⟨e,he,rfl⟩:=List.mem_map.1 ht
   exact HX.o.small (tm e) (by rw[<- g4];exact List.mem_map_of_mem he))
  hcf (fun t u ht hu w2 hb2=>jgz o t u w2 w.heap.size (BO.o.bl hb2) ht hu))
 clear hkp hpn hb g1 g2 g3 g4 OF hlne hne2 hcf;go_wp2_with fail
 with_reducible refine MX.o.mono ?_
 rintro e w2 ⟨t,htm,htx,rfl,hb⟩;have B4:=qh (B4.o.bl hb);have KG:=qk KG hb;obtain⟨⟨t',q⟩,he,e1⟩:=List.mem_map.1 htm;obtain rfl:t'=t:=e1
 have hmem:(t'.m,q)∈P:=by rw[<- T1.o];exact List.mem_map_of_mem he
 have HLD:=qh (show VI (Xa o) P (t'.m,q) from⟨hmem,fun s hs=>by
  rw[<- T1.o] at hs;obtain⟨e,he,rfl⟩:=List.mem_map.1 hs
  exact htx e.1 (List.mem_map_of_mem he)⟩)
 have LQq:=qh (HP.o _ hmem);have NT0:=qh (F1.o _ he);obtain⟨t,ht⟩:∃ t,t=t':=⟨_,rfl⟩;rw[<- ht] at HLD NT0 ⊢;clear htm htx hb he hmem MX ht h0;have c40:=B4.o.ce 0;have c41:=B4.o.ce 1;have c42:=B4.o.ce 2;have c43:=B4.o.ce 3;have c44:=B4.o.ce 4;have c45:=B4.o.ce 5;have c46:=B4.o.ce 6;have c47:=B4.o.ce 7;have c4f:=B4.o.fz;have c4l:=B4.o.lt
 go_upto_region 5 with (fail)
 clear c40 c41 c42 c43 c44 c45 c46 c47 c4f c4l;obtain⟨V,hV⟩:∃ V,V=Xp w2 A4 (.bool t.c.t.s) (.slice t.c.t.a t.c.t.n t.c.t.c) (.bool t.c.l.s) (.slice t.c.l.a t.c.l.n t.c.l.c) (.int .u16 t.m.x) (.int .u16 t.m.y) (.int .u16 t.m.z) (.int .u16 t.m.t):=⟨_,rfl⟩;have B4:=qh (show Bxs V A4 71 [.bool t.c.t.s,.slice t.c.t.a t.c.t.n t.c.t.c,.bool t.c.l.s,.slice t.c.l.a t.c.l.n t.c.l.c,.int .u16 t.m.x,.int .u16 t.m.y,.int .u16 t.m.z,.int .u16 t.m.t] by rw[hV];exact QC B4.o ..);have KG:=qh (show Below w.heap.size w V by rw[hV];exact J5 KG.o HA4.o ..);unfold Xp at hV;rw[<- hV];have NT:=qh (show KF V t.c q from NT0.o.below KG.o);have HSZ:=qh (show w.heap.size<=V.heap.size from KG.o.size);clear hV NT0;obtain⟨q101,hq101⟩:∃ z:Rat,z=((1:Int):Rat):=⟨_,rfl⟩;have Hq101:=qh hq101;have LQq101:=qh (show LQ q101 3 by rw[hq101];exact LQ.int (by decide) (by decide));clear hq101;obtain⟨q102,hq102⟩:∃ z:Rat,z=q*q101:=⟨_,rfl⟩;have Hq102:=qh hq102;have LQq102:=qh (show LQ q102 1800000 by rw[hq102];exact LQ.mul (LQq.o.up (by decide:_<=900000)) (LQq101.o.up (by decide:_<=900000)) (by decide));clear hq102
 go_upto_region 5 with (fail)
 refine FS.Jb 7 [] (FS.JM [(2,FS.Sp.made (fun x:FV=>x.v) (fun x w'=>DF w' V.heap.size x q101) FV.blk),(3,FS.Sp.made (fun x:FV=>x.v) (fun x w'=>DF w' V.heap.size x q102) FV.blk)])
  (fun w'=>Below V.heap.size V w') (by kernel_rfl) (by kernel_rfl) (by kernel_rfl)
  (FS.Jd (FS.Sp.Ji _ (fun _ _ _ h _ hk=>h.kept hk) (FS.Qe (by kernel_rfl))) (FS.Jd (FS.Sp.Ji _ (fun _ _ _ h _ hk=>h.kept hk) (FS.Qe (by kernel_rfl))) (FS.Jk))) (fun _ _ h hb=>h.trans (hb.mono h.size)) (zk.drew) ?_
 simp only[zu,zi,ze,zx,zy,zv,zw]
 iterate 2
  refine FS.Jc rfl rfl rfl ?_ (fun w' hw'=>?_) ?_;rotate_left
  ·have hb':=hw'.world;have hs0:=(B4.o.bl hb').ce 0;have hs1:=(B4.o.bl hb').ce 1;have hs2:=(B4.o.bl hb').ce 2;have hs3:=(B4.o.bl hb').ce 3;have hs4:=(B4.o.bl hb').ce 4;have hs5:=(B4.o.bl hb').ce 5;have hs6:=(B4.o.bl hb').ce 6;have hs7:=(B4.o.bl hb').ce 7;have hsf:=(B4.o.bl hb').fz;have hsl:=(B4.o.bl hb').lt;clear hw';go_simp
   try rfl
  conv=>arg 10;simp only[Act.put,zq0,zq1,zq2]
 refine FS.Jg rfl rfl rfl (fun w' hw'=>?_) ?_
 ·have hb':=hw'.world;refine FS.Jp (FS.PM (fun x:FV=>x.v) (fun x w'=>DF w' V.heap.size x q101) FV.blk w'.heap.size) ?_ (fun _ _ h=>h.post (fun _ _=>FV.inj));go_simp;have CT:=qof 1 w' (by decide) (by decide);rw[show((1:Int):Rat)=q101 from Hq101.o.symm] at CT;refine CT.mono ?_;rintro e w'' ⟨za,rfl,ho,hb⟩;exact⟨_,rfl,⟨za,rfl,ho.mono hb'.size,ho.Xq⟩,hb⟩
 rintro _ ⟨y2,rfl⟩
 conv=>arg 10;simp only[Act.put,zq0,zq1,zq2]
 refine FS.Jg rfl rfl rfl (fun w' hw'=>?_) ?_
 ·have hb':=hw'.world;refine FS.Jp (FS.PM (fun x:FV=>x.v) (fun x w'=>DF w' V.heap.size x q102) FV.blk w'.heap.size) ?_ (fun _ _ h=>h.post (fun _ _=>FV.inj));go_simp;have f2:=FS.QE (val:=(fun x:FV=>x.v)) (Φ:=fun x w'=>DF w' V.heap.size x q101) (fun _ _=>FV.inj) (hw'.fact 2 (by kernel_rfl));have CT:=qmul ((NT.o.below hb')).any (((NT.o.below hb')).len LQq.o (by decide:_<=900000)) (f2).k.any (((f2).k).len LQq101.o (by decide:_<=900000));rw[show q*q101=q102 from Hq102.o.symm] at CT;refine CT.mono ?_;rintro e w'' ⟨za,rfl,ho,hb⟩;exact⟨_,rfl,⟨za,rfl,ho.mono hb'.size,ho.Xq⟩,hb⟩
 rintro _ ⟨y3,rfl⟩
 conv=>arg 10;simp only[Act.put,zq0,zq1,zq2]
 iterate 3
  refine FS.Jc rfl rfl rfl ?_ (fun w' hw'=>?_) ?_;rotate_left
  ·have hb':=hw'.world;have hs0:=(B4.o.bl hb').ce 0;have hs1:=(B4.o.bl hb').ce 1;have hs2:=(B4.o.bl hb').ce 2;have hs3:=(B4.o.bl hb').ce 3;have hs4:=(B4.o.bl hb').ce 4;have hs5:=(B4.o.bl hb').ce 5;have hs6:=(B4.o.bl hb').ce 6;have hs7:=(B4.o.bl hb').ce 7;have hsf:=(B4.o.bl hb').fz;have hsl:=(B4.o.bl hb').lt;clear hw';go_simp
   try rfl
  conv=>arg 10;simp only[Act.put,zq0,zq1,zq2]
 refine FS.Jn (fun w103 hb hF=>?_);have N104:=qh (show DF w103 V.heap.size y3 q102 from(FS.QE (val:=(fun x:FV=>x.v)) (Φ:=fun x w'=>DF w' V.heap.size x q102) (fun _ _=>FV.inj) (hF.all 3)));clear hF;have NT:=qh (NT.o.below hb);have B4:=qh (B4.o.bl hb);have KG:=qk KG hb;clear hb;have HQ:=qh (show q102=q by rw[Hq102.o,Hq101.o];grind);have HD:=qh (show DF (Xp w103 A4 (.bool y3.t.s) (.slice y3.t.a y3.t.n y3.t.c) (.bool y3.l.s) (.slice y3.l.a y3.l.n y3.l.c) (.int .u16 t.m.x) (.int .u16 t.m.y) (.int .u16 t.m.z) (.int .u16 t.m.t)) w.heap.size y3 q from by rw[<- HQ.o];exact jam (N104.o.mono HSZ.o) B4.o (by decide) ..);have HB:=qh (show Below w.heap.size w (Xp w103 A4 (.bool y3.t.s) (.slice y3.t.a y3.t.n y3.t.c) (.bool y3.l.s) (.slice y3.l.a y3.l.n y3.l.c) (.int .u16 t.m.x) (.int .u16 t.m.y) (.int .u16 t.m.z) (.int .u16 t.m.t)) from J5 KG.o HA4.o ..);have c40:=B4.o.ce 0;have c41:=B4.o.ce 1;have c42:=B4.o.ce 2;have c43:=B4.o.ce 3;have c44:=B4.o.ce 4;have c45:=B4.o.ce 5;have c46:=B4.o.ce 6;have c47:=B4.o.ce 7;have c4f:=B4.o.fz;have c4l:=B4.o.lt;go_wp2_with fail
 exact bodyPost_ret (Qj rfl _ _ _ _ _ _ _ rfl (QC B4.o ..) Tryz.underlying71 rfl (by kernel_rfl)) rfl ⟨y3,(t.m,q),rfl,HD.o,HLD.o,HB.o⟩
theorem lead_nil (o:Int) (x:PV) (w:World) (hx:AP w x []) (hn:x.n<=1000000) :
  Calls Tryz.prog 37 #[.int .u8 o,x.v] w fun e w'=>e=.returned (.tuple #[.agg #[.bool false,.slice none 0 0,.bool false,.slice none 0 0,.int .u16 0,.int .u16 0,.int .u16 0,.int .u16 0],.bool false])/\Below w.heap.size w w':=by
 obtain⟨V0,hV⟩:∃ V,V=(w.alloc (.cells #[.int .u8 o] 66)).alloc (.cells #[.bool false,.slice none 0 0,.bool false,.slice none 0 0,.int .u16 0,.int .u16 0,.int .u16 0,.int .u16 0] 71):=⟨_,rfl⟩
 have hbV:Below w.heap.size w V0:=by rw[hV];exact(zk.alloc zj _).alloc (by go_size) _
 have B4:=qh (show Bxs V0 (w.heap.size+1) 71 [.bool false,.slice none 0 0,.bool false,.slice none 0 0,.int .u16 0,.int .u16 0,.int .u16 0,.int .u16 0] by
  have h:=Bxs.new (w.alloc (.cells #[.int .u8 o] 66)) 71 [.bool false,.slice none 0 0,.bool false,.slice none 0 0,.int .u16 0,.int .u16 0,.int .u16 0,.int .u16 0];rw[World.size_alloc] at h
  rw[hV];exact h)
 have OF:=qh (of_at hx hbV (fun t ht=>by cases ht) (by omega));have KG:=qh hbV;have HV:=qh hV;obtain⟨A4,hA4⟩:∃ A,A=w.heap.size+1:=⟨_,rfl⟩;have HA4:=qh (show w.heap.size<=A4 by omega);rw[<- hA4] at B4;have HA5:=qh hA4;obtain⟨xa,xn,xc⟩:=x;change Calls Tryz.prog 37 #[.int .u8 o,.slice xa xn xc] w _;clear hV hbV hx hn hA4;go_enter Tryz.func37,Tryz.ntmps37
 go_upto_region 1 with (fail)
 rw[show(w.alloc (.cells #[.int .u8 o] 66)).alloc (.cells #[.bool false,.slice none 0 0,.bool false,.slice none 0 0,.int .u16 0,.int .u16 0,.int .u16 0,.int .u16 0] 71)=V0 from HV.o.symm,show w.heap.size+1=A4 from HA5.o.symm];go_wp2_with fail
 with_reducible refine OF.o.mono ?_
 rintro e w1 ⟨⟨pa,pn,pc⟩,he,hkp,hpn,hb⟩;obtain rfl:e=.returned (.slice pa pn pc):=he;have B4:=qh (B4.o.bl hb);have KG:=qk KG hb;have h0:=hkp.len;obtain rfl:pn=0:=h0;clear hkp hpn hb OF;have c40:=B4.o.ce 0;have c41:=B4.o.ce 1;have c42:=B4.o.ce 2;have c43:=B4.o.ce 3;have c44:=B4.o.ce 4;have c45:=B4.o.ce 5;have c46:=B4.o.ce 6;have c47:=B4.o.ce 7;have c4f:=B4.o.fz;have c4l:=B4.o.lt;go_wp2_with fail
 exact bodyPost_ret (Qj rfl _ _ _ _ _ _ _ rfl (QC B4.o ..) Tryz.underlying71 rfl (by kernel_rfl)) rfl ⟨rfl,J5 KG.o HA4.o ..⟩
def put4 (w:World) (b:Nat) (v0 v1 v2 v3:Value):World:=(((w.setCell ⟨b,0,none⟩ v0).setCell ⟨b,1,none⟩ v1).setCell ⟨b,2,none⟩ v2).setCell ⟨b,3,none⟩ v3
theorem jck {w:World} {b:Nat} {t:TypeId} {u0 u1 u2 u3:Value} (h:Bxs w b t [u0,u1,u2,u3]) (v0 v1 v2 v3:Value):Bxs (put4 w b v0 v1 v2 v3) b t [v0,v1,v2,v3]:=(((h.put 0 v0).put 1 v1).put 2 v2).put 3 v3
theorem put4_kf {w:World} {b:Nat} {x:FV} {q:Rat} {t:TypeId} {u0 u1 u2 u3:Value} (h:KF w x q) (hb:Bxs w b t [u0,u1,u2,u3]) (n0:XP u0=true) (n1:XP u1=true) (n2:XP u2=true) (n3:XP u3=true) {v0 v1 v2 v3:Value} (m0:XP v0=true) (m1:XP v1=true) (m2:XP v2=true):KF (put4 w b v0 v1 v2 v3) x q :=
 (((h.Jv hb (by simp[n0,n1,n2,n3]) 0 v0).Jv (hb.put 0 v0) (by simp[m0,n1,n2,n3]) 1 v1).Jv ((hb.put 0 v0).put 1 v1) (by simp[m0,m1,n2,n3]) 2 v2).Jv (((hb.put 0 v0).put 1 v1).put 2 v2) (by simp[m0,m1,m2,n3]) 3 v3
theorem Vl {B:Nat} {u w:World} {b:Nat} (h:Below B u w) (hb:B<=b) (v0 v1 v2 v3:Value):Below B u (put4 w b v0 v1 v2 v3):=(((h.setCell hb v0).setCell hb v1).setCell hb v2).setCell hb v3
theorem Vm {q:Rat} {k:Nat} (h:LQ q k):∀ m:Nat,LQ (q ^ m) (m*k+1)
 | 0=>by
  have h1:LQ ((1:Int):Rat) 1:=by constructor <;> decide +kernel
  rw[Rat.pow_zero,Nat.zero_mul,Nat.zero_add]
  exact h1
 | m+1=>by
  rw[Rat.pow_succ];exact((Vm h m).ls.mul h.ls).lq (by rw[Nat.add_mul];omega) (by rw[Nat.add_mul];omega)
structure EF (w:World) (lo:Nat) (x:FV) (q:Rat):Prop where
 t:DN w lo x.t q.num
 l:DN w lo x.l (q.den:Int)
theorem EF.below {w w':World} {lo:Nat} {x:FV} {q:Rat} (h:EF w lo x q) (hb:Below w.heap.size w w'):EF w' lo x q:=⟨h.t.below hb,h.l.below hb⟩
theorem EF.mono {w:World} {lo lo':Nat} {x:FV} {q:Rat} (h:EF w lo x q) (hl:lo'<=lo):EF w lo' x q:=⟨h.t.mono hl,h.l.mono hl⟩
theorem EF.k {w:World} {lo:Nat} {x:FV} {q:Rat} (h:EF w lo x q):KF w x q:=⟨h.t.k,h.l.k⟩
theorem EF.kept {w w':World} {lo:Nat} {x:FV} {q:Rat} (h:EF w lo x q) (hk:∀ b,FV.blk x b->w'.heap[b]?=w.heap[b]?):EF w' lo x q:=⟨h.t.kept fun b hb=>hk b (Or.inl hb),h.l.kept fun b hb=>hk b (Or.inr hb)⟩
theorem EF.Xq {w:World} {lo:Nat} {x:FV} {q:Rat} (h:EF w lo x q):∀ b,FV.blk x b->lo<=b/\b<w.heap.size:=fun b hb=>hb.elim (h.t.Xq b) (h.l.Xq b)
theorem EF.Jv {w:World} {lo:Nat} {x:FV} {q:Rat} (h:EF w lo x q) {g:Nat} {t:TypeId} {l:List Value} (hb:Bxs w g t l) (ht:160≠t) (i:Nat) (v:Value):EF (w.setCell ⟨g,i,none⟩ v) lo x q:=⟨h.t.Jv hb ht i v,h.l.Jv hb ht i v⟩
def RKV (w:World) (q:Rat) (e:Ending) (w':World):Prop:=∃ y:FV,e=.returned y.v/\EF w' w.heap.size y q/\Below w.heap.size w w'
theorem Kt.rkv {w w':World} {q:Rat} {e:Ending} (h:Kt w q.num (q.den:Int) e w'):RKV w q e w':=by
 obtain⟨a1,c1,a2,c2,rfl,o1,o2,hb⟩:=h;exact⟨⟨⟨_,a1,_,c1⟩,⟨_,a2,_,c2⟩⟩,rfl,⟨⟨rfl,rfl,o1⟩,⟨rfl,rfl,o2⟩⟩,hb⟩
theorem rmulV {w:World} {x y:FV} {p q:Rat} (h1:AF w x p) (b1:LF x 900000) (h2:AF w y q) (b2:LF y 900000):Calls Tryz.prog 81 #[x.v,y.v] w (RKV w (p*q)):=by
 obtain⟨o1,o2,r1,r2,e1⟩:=h1.ex;obtain⟨o3,o4,r3,r4,e2⟩:=h2.ex
 exact(jge x.t.s x.t.a x.t.n x.t.c o1 x.l.s x.l.a x.l.n x.l.c o2 y.t.s y.t.a y.t.n y.t.c o3 y.l.s y.l.a y.l.n y.l.c o4 w p q e1.symm e2.symm r1 (by omega) h1.l1 r2 (by omega) h1.l2 r3 (by omega) h2.l1 r4 (by omega) h2.l2).mono fun _ _ h=>Kt.rkv h
theorem rnegV {w:World} {x:FV} {p:Rat} (h1:AF w x p) (b1:LF x 900000):Calls Tryz.prog 175 #[x.v] w (RKV w (-p)):=by
 obtain⟨o1,o2,r1,r2,e1⟩:=h1.ex
 exact(jgd x.t.s x.t.a x.t.n x.t.c o1 x.l.s x.l.a x.l.n x.l.c o2 w p e1.symm r1 (by omega) h1.l1 r2 (by omega) h1.l2).mono fun _ _ h=>Kt.rkv h
theorem VL {w:World} {x:FV} {p:Rat} (h1:AF w x p) (b1:LF x 900000):Calls Tryz.prog 77 #[x.v] w fun e w'=>e=.returned (.int .i64 (Js p.num 0))/\Below w.heap.size w w':=by
 obtain⟨o1,o2,r1,r2,e1⟩:=h1.ex;exact jdo x.t.s x.t.a x.t.n x.t.c o1 x.l.s x.l.a x.l.n x.l.c o2 w p e1.symm r1 (by omega) h1.l1 r2 (by omega) h1.l2
theorem rofV (n:Int) (w:World) (h1:-9223372036854775808<=n) (h2:n<=9223372036854775807):Calls Tryz.prog 76 #[.int .i64 n] w (RKV w (n:Rat)) :=
 (jca n w h1 h2).mono fun _ _ h=>Kt.rkv (q:=(n:Rat)) (by rw[Rat.num_intCast,Rat.den_intCast];exact h)
open Classical in
theorem Vn {w:World} {x:FV} {p:Rat} (h1:KF w x p) (b1:LF x 900000):Calls Tryz.prog 128 #[x.v] w fun e w'=>e=.returned (.bool true)/\Below w.heap.size w w':=by
 have h:=QR x.t.s x.t.a x.t.n x.t.c _ x.l.s x.l.a x.l.n x.l.c _ w h1.t.rd (by omega) h1.t.le h1.l.rd (by omega) h1.l.le;rw[decide_eq_true (by rw[h1.t.s,h1.t.n,h1.l.s,h1.l.n];exact Xv p)] at h;exact h
open Classical in
theorem rcheckVB {w:World} {x:FV} (h1:BF w x) (b1:LF x 900000):Calls Tryz.prog 128 #[x.v] w fun e w'=>e=.returned (.bool false)/\Below w.heap.size w w':=by
 obtain⟨o1,o2,r1,r2,hk⟩:=h1.ex;have h:=QR x.t.s x.t.a x.t.n x.t.c o1 x.l.s x.l.a x.l.n x.l.c o2 w r1 (by omega) h1.l1 r2 (by omega) h1.l2;rw[zo hk] at h;exact h
theorem rcmpV (o:Int) (a b:Mo) (w:World) (ha:a.Small) (hb:b.Small):Calls Tryz.prog 151 #[.int .u8 o,Mo.v a,Mo.v b] w fun e w'=>e=.returned (.int .i64 (Mono.Js (Xa o a) (Xa o b)))/\Below w.heap.size w w':=by
 have h:=Mono.rcmp_any o (moF a) (moF b) w (Qp ha) (Qp hb);rw[Mono.jet (o:=o) (Qp ha) (Qp hb)] at h;exact h
theorem je9 {a b:Mo} (ha:a.Small) (hb:b.Small):a.lt b↔Xa 0 a<Xa 0 b:=by
 have hk:∀ m:Mo,Xa 0 m=(m.x:Int)*281474976710656+(m.y:Int)*4294967296+(m.z:Int)*65536+(m.t:Int):=fun m=>by
  unfold Xa Mono.KO;rw[if_neg (by decide),if_neg (by decide)];rfl
 obtain⟨a1,a2,a3,a4⟩:=ha;obtain⟨b1,b2,b3,b4⟩:=hb;rw[hk,hk];unfold Mo.lt;omega

end Pol
end Go.Proofs.YtgkkbkoiaccmfaaGreatDoor
