/-
  Contents, sums without them, sums with 1 ahead: what the code and the document say of sums that came in.
-/
import Derived.Test.YtgkkbkoiaccmfaaGreatDoorPzOP
set_option linter.unusedSimpArgs false
set_option linter.unusedVariables false
set_option maxHeartbeats 16000000
set_option maxRecDepth 100000
namespace Go.Proofs.YtgkkbkoiaccmfaaGreatDoor
namespace Pol
open Go.RowKit Go.Sort Limb
theorem TwN.at_ {w:World} {lo:Nat} {t x:NV} {o:Nat->Int} (h:TwN w lo t x o):∃ g,t=⟨x.s,some ⟨g,0,none⟩,x.n,x.n+1⟩/\Rd w (some ⟨g,0,none⟩) (x.n+1) (tw o x.n):=by
 obtain⟨ts,ta,tn,tc⟩:=t;obtain⟨h1,h2,h3,h4⟩:=h;change ts=x.s at h1;change tn=x.n at h2;change tc=x.n+1 at h3;subst h1 h2 h3;obtain⟨g,rfl⟩:=h4.Qj (by omega);exact⟨g,rfl,h4.rd⟩
theorem jhr (t x:FV) (lo:Nat) (o1 o2:Nat->Int) (w:World) (h:TwF w lo t x o1 o2) (h1:Rd w x.t.a x.t.n o1) (hn1:x.t.n<=100000000) (h2:Rd w x.l.a x.l.n o2) (hn2:x.l.n<=100000000) :
  Calls Tryz.prog 22 #[t.v,x.v] w fun e w'=>e=.returned (.bool true)/\Below w.heap.size w w':=by
 obtain⟨g1,e1,r1⟩:=h.top.at_;obtain⟨g2,e2,r2⟩:=h.low.at_;obtain⟨tt,tl⟩:=t;change tt=_ at e1;change tl=_ at e2;subst e1 e2;exact U3 x.t.s g1 x.t.a x.t.n x.t.c o1 x.l.s g2 x.l.a x.l.n x.l.c o2 w r1 h1 (by omega) r2 h2 (by omega)
theorem U9 (t u:TV) (lo:Nat) (o1 o2:Nat->Int) (w:World) (h:TwF w lo t.c u.c o1 o2) (h1:Rd w u.c.t.a u.c.t.n o1) (hn1:u.c.t.n<=100000000) (h2:Rd w u.c.l.a u.c.l.n o2) (hn2:u.c.l.n<=100000000) (hm:t.m=u.m):Calls Tryz.prog 82 #[TV.v t,TV.v u] w fun e w'=>e=.returned (.bool true)/\Below w.heap.size w w':=by
 obtain⟨V,hV⟩:∃ V,V=(w.alloc (.cells #[.bool t.c.t.s,.slice t.c.t.a t.c.t.n t.c.t.c,.bool t.c.l.s,.slice t.c.l.a t.c.l.n t.c.l.c,.int .u16 t.m.x,.int .u16 t.m.y,.int .u16 t.m.z,.int .u16 t.m.t] 71)).alloc (.cells #[.bool u.c.t.s,.slice u.c.t.a u.c.t.n u.c.t.c,.bool u.c.l.s,.slice u.c.l.a u.c.l.n u.c.l.c,.int .u16 u.m.x,.int .u16 u.m.y,.int .u16 u.m.z,.int .u16 u.m.t] 71):=⟨_,rfl⟩
 have hbV:Below w.heap.size w V:=by rw[hV];exact(zk.alloc zj _).alloc (by go_size) _
 have B1:=qh (show Bxs V w.heap.size 71 [.bool t.c.t.s,.slice t.c.t.a t.c.t.n t.c.t.c,.bool t.c.l.s,.slice t.c.l.a t.c.l.n t.c.l.c,.int .u16 t.m.x,.int .u16 t.m.y,.int .u16 t.m.z,.int .u16 t.m.t] by rw[hV];exact(Bxs.new w 71 [.bool t.c.t.s,.slice t.c.t.a t.c.t.n t.c.t.c,.bool t.c.l.s,.slice t.c.l.a t.c.l.n t.c.l.c,.int .u16 t.m.x,.int .u16 t.m.y,.int .u16 t.m.z,.int .u16 t.m.t]).alloc _)
 have B2:=qh (show Bxs V (w.heap.size+1) 71 [.bool u.c.t.s,.slice u.c.t.a u.c.t.n u.c.t.c,.bool u.c.l.s,.slice u.c.l.a u.c.l.n u.c.l.c,.int .u16 u.m.x,.int .u16 u.m.y,.int .u16 u.m.z,.int .u16 u.m.t] by
  have h:=Bxs.new (w.alloc (.cells #[.bool t.c.t.s,.slice t.c.t.a t.c.t.n t.c.t.c,.bool t.c.l.s,.slice t.c.l.a t.c.l.n t.c.l.c,.int .u16 t.m.x,.int .u16 t.m.y,.int .u16 t.m.z,.int .u16 t.m.t] 71)) 71 [.bool u.c.t.s,.slice u.c.t.a u.c.t.n u.c.t.c,.bool u.c.l.s,.slice u.c.l.a u.c.l.n u.c.l.c,.int .u16 u.m.x,.int .u16 u.m.y,.int .u16 u.m.z,.int .u16 u.m.t];rw[World.size_alloc] at h
  rw[hV];exact h)
 have KG:=qh hbV;have SF:=qh (jhr t.c u.c lo o1 o2 V (h.below hbV) (h1.below hbV) hn1 (h2.below hbV) hn2);have HV:=qh hV;obtain⟨tc,⟨mx,my,mz,mt⟩⟩:=t;obtain⟨uc,um⟩:=u;change (⟨mx,my,mz,mt⟩:Mo)=um at hm;subst hm;change Calls Tryz.prog 82 #[.agg #[.bool tc.t.s,.slice tc.t.a tc.t.n tc.t.c,.bool tc.l.s,.slice tc.l.a tc.l.n tc.l.c,.int .u16 mx,.int .u16 my,.int .u16 mz,.int .u16 mt],.agg #[.bool uc.t.s,.slice uc.t.a uc.t.n uc.t.c,.bool uc.l.s,.slice uc.l.a uc.l.n uc.l.c,.int .u16 mx,.int .u16 my,.int .u16 mz,.int .u16 mt]] w _;clear hV hbV h h1 h2;go_enter Tryz.func82,Tryz.ntmps82
 go_upto_region 1 with (fail)
 rw[show(w.alloc (.cells #[.bool tc.t.s,.slice tc.t.a tc.t.n tc.t.c,.bool tc.l.s,.slice tc.l.a tc.l.n tc.l.c,.int .u16 mx,.int .u16 my,.int .u16 mz,.int .u16 mt] 71)).alloc (.cells #[.bool uc.t.s,.slice uc.t.a uc.t.n uc.t.c,.bool uc.l.s,.slice uc.l.a uc.l.n uc.l.c,.int .u16 mx,.int .u16 my,.int .u16 mz,.int .u16 mt] 71)=V from HV.o.symm];have c10:=B1.o.ce 0;have c11:=B1.o.ce 1;have c12:=B1.o.ce 2;have c13:=B1.o.ce 3;have c14:=B1.o.ce 4;have c15:=B1.o.ce 5;have c16:=B1.o.ce 6;have c17:=B1.o.ce 7;have c20:=B2.o.ce 0;have c21:=B2.o.ce 1;have c22:=B2.o.ce 2;have c23:=B2.o.ce 3;have c24:=B2.o.ce 4;have c25:=B2.o.ce 5;have c26:=B2.o.ce 6;have c27:=B2.o.ce 7;go_wp2_with fail
 with_reducible refine SF.o.mono ?_
 rintro e w1 ⟨rfl,hb⟩;have KG:=qk KG hb;have B1:=qh (B1.o.bl hb);have B2:=qh (B2.o.bl hb);clear hb SF c10 c11 c12 c13 c14 c15 c16 c17 c20 c21 c22 c23 c24 c25 c26 c27;have c10:=B1.o.ce 0;have c11:=B1.o.ce 1;have c12:=B1.o.ce 2;have c13:=B1.o.ce 3;have c14:=B1.o.ce 4;have c15:=B1.o.ce 5;have c16:=B1.o.ce 6;have c17:=B1.o.ce 7;have c20:=B2.o.ce 0;have c21:=B2.o.ce 1;have c22:=B2.o.ce 2;have c23:=B2.o.ce 3;have c24:=B2.o.ce 4;have c25:=B2.o.ce 5;have c26:=B2.o.ce 6;have c27:=B2.o.ce 7;go_wp2_with fail
 go_ret;exact⟨rfl,KG.o⟩
theorem jaa (x y:PV) (ts us:List TV) (lo:Nat) (w0 w:World) (hx:TwP w0 w lo x ts us) (hw:Below w0.heap.size w0 w) (hy:RT w0 y.a us) (hyn:us.length=y.n) (hn:y.n<=1000000) (hrd:∀ u∈us,u.c.t.n<=100000000/\u.c.l.n<=100000000) :
  Calls Tryz.prog 21 #[x.v,y.v] w fun e w'=>e=.returned (.bool true)/\Below w.heap.size w w':=by
 have hxl:x.n=y.n:=hx.n.trans hyn;obtain⟨xa,xn,xc⟩:=x;obtain⟨ya,n,yc⟩:=y;change xn=n at hxl;subst hxl;obtain⟨a',c',e',hcc,hrx⟩:=OT.slice hx.row
 have hll:(ts++[YN]).length=xn+1:=by
  rw[List.length_append,hx.len,show us.length=xn from hyn];rfl
 rw[hll] at e' hcc;change Value.slice xa (xn+1) xc=.slice a' (xn+1) c' at e'
 obtain⟨rfl,rfl⟩:xa=a'/\xc=c':=by injection e' with e1 e2 e3;exact⟨e1,e3⟩
 clear e';have HNN:=qh (show xn<=1000000 from hn);have NU:=qh (show us.length=xn from hyn);have NT:=qh (show ts.length=xn from hx.len.trans hyn);have EA:=qh hx.each;have HRD:=qh hrd;have HW:=qh hw;have RX:=qh (hrx.one (by simp));have RY:=qh (RT.below (show RT w0 ya us from hy) hw)
 have g1:¬xc<=xn:=by omega
 have g2:¬(xc:Int)<=(xn:Int):=by omega
 have g3:xn+1<=xc:=hcc
 have g4:(xn:Int)+1<=(xc:Int):=by omega
 have g5:IntKind.i64.wrap ((xn:Int)+1)=(xn:Int)+1:=IntWalk.i64_in _ (by have:=HNN.o;omega);have G:=qh (And.intro g1 (And.intro g2 (And.intro g3 (And.intro g4 g5))));change Calls Tryz.prog 21 #[.slice xa xn xc,.slice ya xn yc] w _;clear hx hw hy hyn hn hrd hrx hcc hll g3 g4 g5;obtain⟨pb,po,rfl,hp⟩:=RX.o;have HP:=qh hp;clear hp RX;go_enter Tryz.func21,Tryz.ntmps21;go_wp2_with fail
 clear g1 g2;go_loopw [5] (fun i wr=>∃ j:Nat,j<=xn/\i=.int .i64 j/\Below w.heap.size w wr) (fun i _=>xn-(intOf i).toNat)
 case atStart =>
  exact⟨0,Nat.zero_le _,rfl,zk⟩
 case round =>
  obtain⟨j,hj,rfl,hb0⟩:=hrel;have HJ:=qh hj;have KG:=qh hb0;clear hj hb0;by_cases hjn:j<xn
  ·have HJN:=qh hjn;obtain⟨t,ht⟩:∃ t,ts[j]?=some t:=⟨_,List.getElem?_eq_getElem (by rw[NT.o];exact hjn)⟩;obtain⟨u,hu⟩:∃ u,us[j]?=some u:=⟨_,List.getElem?_eq_getElem (by rw[NU.o];exact hjn)⟩;obtain⟨qb,qo,rfl,hc2⟩:=(RY.o.below KG.o).one (fun h=>by rw[h] at hu;simp at hu);have E1:=qh ((HP.o j t (by rw[List.getElem?_append_left (by rw[NT.o];exact hjn)];exact ht)).below KG.o);have E2:=qh (hc2 j u hu);obtain⟨hm,o1,o2,r1,r2,hf⟩:=EA.o j t u ht hu;obtain⟨s1,s2⟩:=HRD.o u (List.mem_of_getElem? hu);have HM:=qh hm;have HF:=qh (hf.below KG.o);have HR1:=qh ((r1.below HW.o).below KG.o);have HR2:=qh ((r2.below HW.o).below KG.o);have HS1:=qh s1;have HS2:=qh s2;have ek:IntKind.i64.wrap ((j:Int)+1)=(j:Int)+1:=IntWalk.i64_in _ (by have:=HJN.o;have:=HNN.o;omega);clear hc2 ht hu hm r1 r2 hf s1 s2
   go_upto_region 6 with (fail)
   refine FS.Jc 9 [] (FS.JM [(8,FS.Sp.know (.bool true))])
    (fun w'=>Below wr.heap.size wr w') (by kernel_rfl) (by kernel_rfl) (by kernel_rfl)
    (FS.Jd (FS.Sp.Jl _ _) (FS.Jk)) (fun _ _ h hb=>h.trans (hb.mono h.size)) (zk.drew) ?_
   simp only[zu,zi,ze,zx,zy,zv,zw]
   iterate 8
    refine FS.Jb rfl rfl rfl ?_ (fun w' hw'=>?_) ?_;rotate_left
    ·have hb':=hw'.world;obtain⟨hs0,hs1,hs2,hs3,hs4,hs5,hs6,hs7⟩:=(E1.o.below hb').eight;obtain⟨hs0,hs1,hs2,hs3,hs4,hs5,hs6,hs7⟩:=(E2.o.below hb').eight;clear hw';go_simp
     try rfl
    conv=>arg 10;simp only[Act.put,zq0,zq1,zq2]
   refine FS.Jf rfl rfl rfl (fun w' hw'=>?_) ?_
   ·have hb':=hw'.world;refine FS.Jn (FS.PK (.bool true)) ?_ (fun _ _ h=>h.post);go_simp;have CT:=U9 t u lo o1 o2 w' (HF.o.below hb') (HR1.o.below hb') HS1.o (HR2.o.below hb') HS2.o HM.o;refine CT.mono ?_;rintro e w'' ⟨rfl,hb⟩;exact⟨_,rfl,rfl,hb⟩
   rintro _ rfl
   conv=>arg 10;simp only[Act.put,zq0,zq1,zq2]
   refine FS.Jo (fun w101 hb hF=>?_);clear hF;have KG:=qk KG hb;clear hb;go_wp2_with fail
   go_roundw
   case rel =>
    exact⟨j+1,by have:=HJN.o;omega,rfl,KG.o⟩
   case measure=>simp[intOf];have:=HJN.o;omega
  ·have hge:¬((j:Int)<(xn:Int)):=by omega
   obtain rfl:j=xn:=by have:=HJ.o;omega
   obtain⟨g1,g2,g3,g4,g5⟩:=G.o;have E1:=qh ((HP.o j YN (by rw[List.getElem?_append_right (by rw[NT.o];exact zj),NT.o,Nat.sub_self];rfl)).below KG.o);obtain⟨h0,h1,h2,h3,h4,h5,h6,h7⟩:=E1.o.eight;have HA:=qh (KG.o.alloc KG.o.size (.cells (TV.cells YN).toArray 71));clear hjn;go_wp2_with fail
   go_ret;exact⟨rfl,HA.o⟩
theorem rd_same {w:World} {a:Option Addr} {n:Nat} {o p:Nat->Int} (h:Rd w a n o) (g:Rd w a n p):∀ i,i<n->o i=p i:=fun i hi=>by
 obtain⟨b,off,ha,hc⟩:=h.cells (by omega);obtain⟨b2,off2,ha2,hc2⟩:=g.cells (by omega);rw[ha] at ha2
 cases ha2
 have h1:=hc i hi;rw[hc2 i hi] at h1
 injection h1 with h1
 injection h1 with _ h1
 exact h1.symm
theorem TwN.rd {w0 w:World} {lo:Nat} {t x:NV} {o p:Nat->Int} (h:TwN w lo t x o) (h1:Rd w0 x.a x.n o) (h2:Rd w0 x.a x.n p):Rd w t.a t.n p:=by
 rw[h.n]
 exact(h.own.rd.le (Nat.le_succ _)).congr fun i hi=>by
  unfold tw;rw[if_pos hi];exact rd_same h1 h2 i hi
theorem TwN.le {w:World} {lo:Nat} {t x:NV} {o:Nat->Int} (h:TwN w lo t x o):t.n<=t.c:=by rw[h.n,h.c];exact Nat.le_succ _
theorem TwF.k {w0 w:World} {lo:Nat} {t x:FV} {o1 o2:Nat->Int} {q:Rat} (h:TwF w lo t x o1 o2) (h1:Rd w0 x.t.a x.t.n o1) (h2:Rd w0 x.l.a x.l.n o2) (hk:KF w0 x q):KF w t q :=
 ⟨⟨h.top.s.trans hk.t.s,h.top.n.trans hk.t.n,h.top.rd h1 hk.t.rd,h.top.le⟩,⟨h.low.s.trans hk.l.s,h.low.n.trans hk.l.n,h.low.rd h2 hk.l.rd,h.low.le⟩⟩
theorem TwF.b {w0 w:World} {lo:Nat} {t x:FV} {o1 o2:Nat->Int} (h:TwF w lo t x o1 o2) (h1:Rd w0 x.t.a x.t.n o1) (h2:Rd w0 x.l.a x.l.n o2) (hk:BF w0 x):BF w t:=by
 obtain⟨p1,p2,g1,g2,g3⟩:=hk.ex;exact⟨⟨p1,p2,h.top.rd h1 g1,h.low.rd h2 g2,by rw[h.top.s,h.top.n,h.low.s,h.low.n];exact g3⟩,h.top.le,h.low.le⟩
theorem TwF.a {w0 w:World} {lo:Nat} {t x:FV} {o1 o2:Nat->Int} {q:Rat} (h:TwF w lo t x o1 o2) (h1:Rd w0 x.t.a x.t.n o1) (h2:Rd w0 x.l.a x.l.n o2) (hk:AF w0 x q):AF w t q:=by
 obtain⟨p1,p2,g1,g2,g3⟩:=hk.ex;exact⟨⟨p1,p2,h.top.rd h1 g1,h.low.rd h2 g2,by rw[h.top.s,h.top.n,h.low.s,h.low.n];exact g3⟩,h.top.le,h.low.le⟩
theorem TwP.rt {w0 w:World} {lo:Nat} {x:PV} {ts us:List TV} (h:TwP w0 w lo x ts us):RT w x.a ts/\ts.length=x.n/\x.n<=x.c:=by
 have hxn:=h.n;have hle:=h.len;obtain⟨xa,xn,xc⟩:=x;change xn=us.length at hxn;obtain⟨a',c',e,hc,hr⟩:=OT.slice h.row;change Value.slice xa (xn+1) xc=_ at e
 injection e with e1 e2 e3
 subst e1 e3;refine⟨⟨fun hne=>?_⟩,by show ts.length=xn;omega,by show xn<=xc;omega⟩;obtain⟨b,off,ha,hcc⟩:=hr.ex (by simp);exact⟨b,off,ha,fun i t hi=>hcc i t (by rw[List.getElem?_append_left (List.getElem?_eq_some_iff.1 hi).1];exact hi)⟩
def Tw2 (w0 w:World) (lo:Nat) (y x:PV):Prop:=∃ ts us,TwP w0 w lo y ts us/\RT w0 x.a us/\us.length=x.n/\∀ u∈us,u.c.t.n<=100000000/\u.c.l.n<=100000000
theorem TwP.below {w0 w w':World} {lo:Nat} {x:PV} {ts us:List TV} (h:TwP w0 w lo x ts us) (hb:Below w.heap.size w w'):TwP w0 w' lo x ts us:=⟨OT.below h.row hb,h.n,h.len,fun i t u h1 h2=>(h.each i t u h1 h2).below hb,h.ap⟩
theorem Tw2.below {w0 w w':World} {lo:Nat} {y x:PV} (h:Tw2 w0 w lo y x) (hb:Below w.heap.size w w'):Tw2 w0 w' lo y x:=by
 obtain⟨ts,us,h1,h2⟩:=h;exact⟨ts,us,h1.below hb,h2⟩
theorem Tw2.left {w0 w:World} {lo:Nat} {y x:PV} (h:Tw2 w0 w lo y x) (hw:Below w0.heap.size w0 w) (hn:x.n<=1000000) :
  Calls Tryz.prog 21 #[y.v,x.v] w fun e w'=>e=.returned (.bool true)/\Below w.heap.size w w':=by
 obtain⟨ts,us,h1,h2,h3,h4⟩:=h;exact jaa y x ts us lo w0 w h1 hw h2 h3 hn h4
theorem jfy {α β:Type} {l:List α} {m:List β} {i:Nat} {a:α} {b:β} (h:(l.zip m)[i]?=some (a,b)):l[i]?=some a/\m[i]?=some b:=by
 rw[List.getElem?_zip_eq_some] at h;exact h
theorem twin_k (x:PV) (P:List Tm) (w:World) (h:KP w x P) (hl:∀ t∈P,LQ t.2 900000) (hx:x.n<=1000000) :
  Calls Tryz.prog 12 #[x.v] w fun e w'=>∃ y:PV,e=.returned y.v/\y.n=x.n/\KP w' y P/\Tw2 w w' w.heap.size y x/\Below w.heap.size w w':=by
 obtain⟨L,h1,h2,h3,h4⟩:=h.ex
 have hs:∀ u∈L.map Prod.fst,u.c.t.n<=100000000/\u.c.l.n<=100000000:=fun u hu=>by
  obtain⟨e,he,rfl⟩:=List.mem_map.1 hu;have:=(h3 e he).len (hl (e.1.m,e.2) (by rw[<- h4];exact List.mem_map.2 ⟨e,he,rfl⟩)) zj;exact⟨by have:=this.1;omega,by have:=this.2;omega⟩
 refine(Kl x (L.map Prod.fst) w h1 (by rw[List.length_map,h2]) hx fun u hu=>?_).mono fun e w' ⟨y,ts,he,hn,ht,hb⟩=>?_
 ·obtain⟨g1,g2⟩:=hs u hu;obtain⟨e,he,rfl⟩:=List.mem_map.1 hu;exact⟨_,_,(h3 e he).t.rd,(h3 e he).l.rd,g1,g2⟩
 ·obtain⟨r1,r2,r3⟩:=ht.rt
  have hlen:ts.length=(L.map Prod.snd).length:=by rw[ht.len,List.length_map,List.length_map]
  refine⟨y,he,hn,⟨⟨ts.zip (L.map Prod.snd),?_,?_,fun e he=>?_,?_⟩,r3,h.canon,h.small⟩,⟨ts,_,ht,h1,by rw[List.length_map,h2],hs⟩,hb⟩
  ·rw[List.map_fst_zip (by omega)];exact r1
  ·rw[List.length_zip,<- hlen,Nat.min_self,r2]
  ·obtain⟨i,hi⟩:=List.mem_iff_getElem?.1 he;obtain⟨t,q⟩:=e;obtain⟨i1,i2⟩:=jfy hi;rw[List.getElem?_map] at i2;obtain⟨e2,e3,rfl⟩:=Option.map_eq_some_iff.1 i2;obtain⟨-,o1,o2,g1,g2,g3⟩:=ht.each i t e2.1 i1 (by rw[List.getElem?_map,e3];rfl);exact g3.k g1 g2 (h3 e2 (List.mem_of_getElem? e3))
  ·rw[<- h4]
   refine List.ext_getElem? fun i=>?_
   rw[List.getElem?_map,List.getElem?_map]
   cases e3:L[i]? with
   | none =>
    have h9:=List.getElem?_eq_none_iff.1 e3
    rw[List.getElem?_eq_none (l:=ts.zip (L.map Prod.snd)) (by rw[List.length_zip,hlen,List.length_map,Nat.min_self];exact h9)]
   | some e2 =>
    have hil:=(List.getElem?_eq_some_iff.1 e3).1;obtain⟨t,e4⟩:∃ t,ts[i]?=some t:=⟨_,List.getElem?_eq_getElem (by rw[hlen,List.length_map];exact hil)⟩
    have e5:(ts.zip (L.map Prod.snd))[i]?=some (t,e2.2):=by
     rw[List.getElem?_zip_eq_some];exact⟨e4,by rw[List.getElem?_map,e3];rfl⟩
    obtain⟨hm,-⟩:=ht.each i t e2.1 e4 (by rw[List.getElem?_map,e3];rfl);rw[e5];show some (t.m,e2.2)=some (e2.1.m,e2.2);rw[hm]
theorem UX:∀ {L M:List TO},L.length=M.length->(∀ (i:Nat) (e f:TO),L[i]?=some e->M[i]?=some f->e.1.m=f.1.m/\e.2=f.2)->vals L=vals M
 | [],[],_,_=>rfl
 | [],_ :: _,h,_=>by simp at h
 | _ :: _,[],h,_=>by simp at h
 | (a,p) :: l,(b,q) :: m,h,hh=>by
  obtain⟨h1,h2⟩:=hh 0 _ _ rfl rfl;have h1:a.m=b.m:=h1;have h2:p=q:=h2;subst h2
  have:=UX (L:=l) (M:=m) (by simpa using h) fun i e f he hf=>hh (i+1) e f he hf
  unfold vals;rw[this];clear h hh this
  cases p with
  | none=>rfl
  | some q =>
   cases vals m with
   | none=>rfl
   | some l =>
    show some ((a.m,q) :: l)=some ((b.m,q) :: l);rw[h1]
theorem twin_b (x:PV) (w:World) (h:BP w x) (hx:x.n<=1000000) :
  Calls Tryz.prog 12 #[x.v] w fun e w'=>∃ y:PV,e=.returned y.v/\y.n=x.n/\BP w' y/\Tw2 w w' w.heap.size y x/\Below w.heap.size w w':=by
 obtain⟨L,⟨h1,h2,h3,h4,h5,h6⟩,hno⟩:=h
 have hs:∀ u∈L.map Prod.fst,u.c.t.n<=100000000/\u.c.l.n<=100000000:=fun u hu=>by
  obtain⟨e,he,rfl⟩:=List.mem_map.1 hu;have:=h6 e he;exact⟨by have:=this.1;omega,by have:=this.2;omega⟩
 refine(Kl x (L.map Prod.fst) w h1 (by rw[List.length_map,h2]) hx fun u hu=>?_).mono fun e w' ⟨y,ts,he,hn,ht,hb⟩=>?_
 ·obtain⟨g1,g2⟩:=hs u hu;obtain⟨e,he,rfl⟩:=List.mem_map.1 hu;have h7:=h4 e he;unfold TO.ok at h7;split at h7
  ·exact⟨_,_,h7.t.rd,h7.l.rd,g1,g2⟩
  ·obtain⟨o1,o2,q1,q2,-⟩:=h7.ex;exact⟨o1,o2,q1,q2,g1,g2⟩
 ·obtain⟨r1,r2,r3⟩:=ht.rt
  have hlen:ts.length=(L.map Prod.snd).length:=by rw[ht.len,List.length_map,List.length_map]
  have get:∀ (i:Nat) (e:TO),(ts.zip (L.map Prod.snd))[i]?=some e->∃ e2 o1 o2,L[i]?=some e2/\e.2=e2.2/\e.1.m=e2.1.m/\Rd w e2.1.c.t.a e2.1.c.t.n o1/\Rd w e2.1.c.l.a e2.1.c.l.n o2/\TwF w' w.heap.size e.1.c e2.1.c o1 o2:=fun i e hi=>by
   obtain⟨t,q⟩:=e;obtain⟨i1,i2⟩:=jfy hi;rw[List.getElem?_map] at i2;obtain⟨e2,e3,rfl⟩:=Option.map_eq_some_iff.1 i2;obtain⟨hm,o1,o2,g1,g2,g3⟩:=ht.each i t e2.1 i1 (by rw[List.getElem?_map,e3];rfl);exact⟨e2,o1,o2,e3,rfl,hm,g1,g2,g3⟩
  refine⟨y,he,hn,⟨ts.zip (L.map Prod.snd),⟨?_,?_,r3,fun e he=>?_,fun e he=>?_,fun e he=>?_⟩,?_⟩,⟨ts,_,ht,h1,by rw[List.length_map,h2],hs⟩,hb⟩
  ·rw[List.map_fst_zip (by omega)];exact r1
  ·rw[List.length_zip,<- hlen,Nat.min_self,r2]
  ·obtain⟨i,hi⟩:=List.mem_iff_getElem?.1 he;obtain⟨e2,o1,o2,g1,g2,-,g3,g4,g5⟩:=get i e hi;have h7:=h4 e2 (List.mem_of_getElem? g1);obtain⟨t,q⟩:=e;obtain⟨t2,q2⟩:=e2;have g2:q=q2:=g2;subst g2;unfold TO.ok at h7 ⊢
   cases q with
   | some q=>exact g5.k g3 g4 h7
   | none=>exact g5.b g3 g4 h7
  ·obtain⟨i,hi⟩:=List.mem_iff_getElem?.1 he;obtain⟨e2,o1,o2,g1,-,g2,-⟩:=get i e hi;rw[g2];exact h5 e2 (List.mem_of_getElem? g1)
  ·obtain⟨i,hi⟩:=List.mem_iff_getElem?.1 he;obtain⟨e2,o1,o2,g1,-,-,-,-,g5⟩:=get i e hi;have h8:=h6 e2 (List.mem_of_getElem? g1);exact⟨by rw[g5.top.n];exact h8.1,by rw[g5.low.n];exact h8.2⟩
  ·rw[show okP (ts.zip (L.map Prod.snd))=okP L by
    unfold okP
    rw[UX (L:=ts.zip (L.map Prod.snd)) (M:=L) (by rw[List.length_zip,hlen,Nat.min_self,List.length_map]) fun i e f he hf=>by
     obtain⟨e2,-,-,g1,g2,g3,-⟩:=get i e he;rw[hf] at g1;obtain rfl:=Option.some.inj g1
     exact⟨g3,g2⟩]]
   exact hno
abbrev OW (w:World) (lo:Nat) (v:Value) (Zs:List PV):Prop:=w.ownsRow lo 23 1 v Zs.length (Zs.map PV.v)
theorem OW.own {w:World} {lo:Nat} {v:Value} {Zs:List PV} (h:OW w lo v Zs) {k:Nat} (hk:some k=v.ownBlock):lo<=k/\∃ cur,w.heap[k]?=some (.cells cur 23 (0,0)):=by
 rcases h.2 with ⟨hv,_⟩ | ⟨g,cap,cur,hv,hlo,hg,_⟩
 ·rw[hv] at hk;cases hk
 ·rw[hv] at hk;have hk:some k=some g:=hk
  cases hk
  exact⟨hlo,cur,hg⟩
theorem OW.cells {w:World} {lo:Nat} {v:Value} {Zs:List PV} (h:OW w lo v Zs):∃ a c,v=.slice a Zs.length c/\Zs.length<=c/\∀ i z,Zs[i]?=some z->∃ g,a=some ⟨g,0,none⟩/\w.cell? ⟨g,i,none⟩=some z.v:=by
 rcases h.2 with ⟨hv,h0⟩ | ⟨g,cap,cur,hv,hnc,_,hg,hl,hcs,htake⟩
 ·have hz:Zs=[]:=List.length_eq_zero_iff.1 h0;subst hz;exact⟨none,0,hv,zj,fun i b hi=>by simp at hi⟩
 ·refine⟨some ⟨g,0,none⟩,cap,hv,by omega,fun i z hi=>⟨g,rfl,?_⟩⟩;have hil:=(List.getElem?_eq_some_iff.1 hi).1;rw[cell_of_row _ _ _ _ _ _ ‹_›]
  have h1:(Zs.map PV.v)[i]?=some z.v:=by rw[List.getElem?_map,hi];rfl
  rw[<- htake,List.getElem?_take,if_pos (by omega),Array.getElem?_toList] at h1;exact h1
structure EQ (w:World) (lo lo2:Nat) (v:Value) (Rs:List (List Tm)):Prop where
 ex:∃ Zs:List PV,OW w lo2 v Zs/\Zs.length=Rs.length/\∀ (i:Nat) (z:PV) (R:List Tm),Zs[i]?=some z->Rs[i]?=some R->EP w lo z R
theorem EQ.nil (w:World) (lo lo2:Nat):EQ w lo lo2 (.slice none 0 0) []:=⟨[],World.ownsRow_nil _ _ _ _,rfl,fun i z R h=>by simp at h⟩
theorem EQ.slice {w:World} {lo lo2:Nat} {v:Value} {Rs:List (List Tm)} (h:EQ w lo lo2 v Rs):∃ a c,v=.slice a Rs.length c:=by
 obtain⟨Zs,h1,h2,-⟩:=h.ex;obtain⟨a,c,e,-⟩:=h1.cells;exact⟨a,c,by rw[e,h2]⟩
theorem jfz {w:World} {x y:NV} {p q:Int} (h1:AN w x p) (b1:x.n<=10000000) (h2:AN w y q) (b2:y.n<=10000000):Calls Tryz.prog 142 #[x.v,y.v] w (RN w ((Int.gcd p q:Nat):Int)):=by
 obtain⟨o1,r1,rfl⟩:=h1.ex;obtain⟨o2,r2,rfl⟩:=h2.ex;refine(KL x.s x.a x.n x.c o1 y.s y.a y.n y.c o2 w r1 b1 h1.le r2 b2 h2.le).mono ?_;rintro e w' ⟨a,c,rfl,ho,hb⟩;exact⟨⟨_,a,_,c⟩,rfl,⟨rfl,rfl,ho⟩,hb⟩
theorem refMulN {w:World} {x y:NV} {p q:Int} (h1:AN w x p) (b1:x.n<=10000000) (h2:AN w y q) (b2:y.n<=10000000):Calls Tryz.prog 144 #[x.v,y.v] w (RN w (p*q)):=by
 obtain⟨o1,r1,rfl⟩:=h1.ex;obtain⟨o2,r2,rfl⟩:=h2.ex;refine(Zy x.s x.a x.n x.c o1 y.s y.a y.n y.c o2 w r1 (by omega) h1.le r2 (by omega) h2.le).mono ?_;rintro e w' ⟨a,c,rfl,ho,hb⟩;exact⟨⟨_,a,_,c⟩,rfl,⟨rfl,rfl,ho⟩,hb⟩
theorem refNegN {w:World} {x:NV} {p:Int} (h1:AN w x p) (b1:x.n<=10000000):Calls Tryz.prog 145 #[x.v] w (RN w (-p)):=by
 obtain⟨o1,r1,rfl⟩:=h1.ex;refine(KH x.s x.a x.n x.c o1 w r1 (by omega) h1.le).mono ?_;rintro e w' ⟨a,c,rfl,ho,hb⟩;exact⟨⟨_,a,_,c⟩,rfl,⟨rfl,rfl,ho⟩,hb⟩
theorem refDivN {w:World} {x y:NV} {p q:Int} (h1:KN w x p) (b1:x.n<=10000000) (h2:KN w y q) (b2:y.n<=10000000) (hz:q≠0):Calls Tryz.prog 143 #[x.v,y.v] w (RNN w (p/q) (p%q) 0):=by
 obtain⟨xs,xa,xn,xc⟩:=x;obtain⟨ys,ya,yn,yc⟩:=y;obtain⟨e1,e2,r1,l1⟩:=h1;obtain⟨e3,e4,r2,l2⟩:=h2;simp only at e1 e2 e3 e4;subst e1 e2 e3 e4;refine(Z0 p q xa ya xc yc w r1 b1 l1 r2 b2 l2 hz).mono ?_;rintro e w' ⟨aq,cq,ar,cr,rfl,ho,ho2,hb⟩;exact⟨⟨_,aq,_,cq⟩,⟨_,ar,_,cr⟩,rfl,⟨rfl,rfl,ho⟩,⟨rfl,rfl,ho2⟩,hb⟩
theorem jc6 {w:World} {x y:NV} {p q:Int} (h1:KN w x p) (b1:x.n<=900000) (h2:KN w y q) (b2:y.n<=900000) (hq:q≠0):Calls Tryz.prog 146 #[x.v,y.v] w fun e w'=>∃ z:FV,e=.returned (.tuple #[z.v,.int .i64 0])/\EF w' w.heap.size z ((p:Rat)/(q:Rat))/\Below w.heap.size w w':=by
 have h:=rmake_ok x.s x.a x.n x.c _ y.s y.a y.n y.c _ w h1.rd (by omega) h1.le h2.rd (by omega) h2.le h1.okv h2.okv (by rw[h2.Vk];exact hq);rw[h1.Vk,h2.Vk,Rat.divInt_eq_div] at h;refine h.mono ?_;rintro e w' ⟨b1,d1,b2,d2,rfl,o1,o2,hb⟩;exact⟨⟨⟨_,b1,_,d1⟩,⟨_,b2,_,d2⟩⟩,rfl,⟨⟨rfl,rfl,o1⟩,⟨rfl,rfl,o2⟩⟩,hb⟩
def put2 (w:World) (b:Nat) (v0 v1:Value):World:=(w.setCell ⟨b,0,none⟩ v0).setCell ⟨b,1,none⟩ v1
theorem VN {w:World} {b:Nat} {t:TypeId} {u0 u1:Value} (h:Bxs w b t [u0,u1]) (v0 v1:Value):Bxs (put2 w b v0 v1) b t [v0,v1]:=(h.put 0 v0).put 1 v1
theorem Xc {w:World} {b g:Nat} {t:TypeId} {l:List Value} (h:Bxs w g t l) (hn:g≠b) (v0 v1:Value):Bxs (put2 w b v0 v1) g t l:=(h.other hn v0).other hn v1
theorem Z7 {w:World} {lo b:Nat} {x:NV} {z:Int} {t:TypeId} {u0 u1:Value} (h:DN w lo x z) (hb:Bxs w b t [u0,u1]) (ht:160≠t) (v0 v1:Value):DN (put2 w b v0 v1) lo x z:=(h.Jt hb ht 0 v0).Jt (hb.put 0 v0) ht 1 v1
theorem Ke {B:Nat} {u w:World} {b:Nat} (h:Below B u w) (hb:B<=b) (v0 v1:Value):Below B u (put2 w b v0 v1):=(h.setCell hb v0).setCell hb v1
theorem cmp_neg {q:Rat} {sg:Int} (h:sg=Jv q.num 0) (hs:sg<0):sg = -1:=by
 unfold Jv at h;split at h
 ·exact h
 ·split at h <;> omega
theorem cmp_pos {q:Rat} {sg:Int} (h:sg=Jv q.num 0) (hs:¬sg<0) (hq:q≠0):sg=1:=by
 have h0:q.num≠0:=fun e=>hq (V4.1 (by rw[e];rfl))
 unfold Jv at h;split at h
 ·omega
 ·split at h
  ·exact h
  ·omega
theorem neg_over (a:Int) (b:Rat):((-a:Int):Rat)/b=(a:Rat)/b*((-1:Int):Rat):=by
 rw[Rat.intCast_neg,Rat.div_def,Rat.div_def];grind
theorem jbu (x:PV) (P:List Tm) (k:Nat) (w:World) (hx:AP w x P) (hp:∀ t∈P,LQ t.2 k) (hn:x.n<=1000000) (hk:P.length*k+1<=400000) (hk4:k<=400000) (hne:P≠[]) :
  Calls Tryz.prog 34 #[x.v] w (RKV w (JW P)):=by
 obtain⟨⟨za,zn,zc⟩,hz,hzn,hct⟩:=jet hx (fun t ht=>(hp t ht).up (by omega)) (by omega);obtain⟨V,hV⟩:∃ V,V=w.alloc (.cells #[.bool false,.slice none 0 0,.bool false,.slice none 0 0] 28):=⟨_,rfl⟩
 have hbV:Below w.heap.size w V:=by rw[hV];exact zk.alloc zj _
 have B2:=qh (show Bxs V w.heap.size 28 [.bool false,.slice none 0 0,.bool false,.slice none 0 0] by rw[hV];exact Bxs.new w 28 [.bool false,.slice none 0 0,.bool false,.slice none 0 0]);have CT:=qh (hct V hbV);have FZ:=qh hz;have HP:=qh hp;have HK:=qh hk;have HK4:=qh hk4;have HN:=qh (show zn<=1000000 from zm hzn hn);have HPL:=qh (show zn=P.length from hz.len);have HNE:=qh hne;have KG:=qh hbV;have HV:=qh hV;obtain⟨A2,hA2⟩:∃ A,A=w.heap.size:=⟨_,rfl⟩;have HA2:=qh hA2;rw[<- hA2] at B2;obtain⟨xa,xn,xc⟩:=x;clear hx hp hn hk hk4 hne hz hzn hct hbV hV hA2;change Calls Tryz.prog 34 #[.slice xa xn xc] w _;go_enter Tryz.func34,Tryz.ntmps34
 go_upto_region 1 with (fail)
 rw[show w.alloc (.cells #[.bool false,.slice none 0 0,.bool false,.slice none 0 0] 28)=V from HV.o.symm,show w.heap.size=A2 from HA2.o.symm];go_wp2_with fail
 with_reducible refine CT.o.mono ?_
 rintro e w1 ⟨he,hb⟩;obtain rfl:e=.returned (.slice za zn zc):=he;have B2:=qh (B2.o.bl hb);have KG:=qk KG hb;have HPOS:=qh (show 0<zn by rw[HPL.o];exact List.length_pos_iff.2 HNE.o)
 have h0:¬((zn:Int)=0):=by have:=HPOS.o;omega
 have O0:=qh (rofN 0 w1 (by decide) (by decide));clear hb CT;go_wp2_with fail
 with_reducible refine O0.o.mono ?_
 rintro e w2 ⟨tp,rfl,hx,hb⟩;have NTP:=qh (hx.mono KG.o.size);have B2:=qh (B2.o.bl hb);have KG:=qk KG hb;clear hx hb O0
 go_upto_region 5 with (fail)
 obtain⟨V2,hV⟩:∃ V,V=w2.alloc (.cells #[.bool tp.s,.slice tp.a tp.n tp.c] 26):=⟨_,rfl⟩
 have hb:Below w2.heap.size w2 V2:=by rw[hV];exact zk.alloc zj _
 have B3:=qh (show Bxs V2 w2.heap.size 26 [.bool tp.s,.slice tp.a tp.n tp.c] by rw[hV];exact Bxs.new w2 26 [.bool tp.s,.slice tp.a tp.n tp.c]);obtain⟨A3,hA3⟩:∃ A,A=w2.heap.size:=⟨_,rfl⟩;rw[<- hV,<- hA3];rw[<- hA3] at B3;have H23:=qh (show A2≠A3 by rw[hA3];have:=B2.o.lt;omega);have HA3:=qh (show w.heap.size<=A3 by rw[hA3];exact KG.o.size);have NTP:=qh (NTP.o.below hb);have B2:=qh (B2.o.bl hb);have KG:=qk KG hb;have O1:=qh (rofN 1 V2 (by decide) (by decide));clear hb hV hA3 h0;go_wp2_with fail
 with_reducible refine O1.o.mono ?_
 rintro e w3 ⟨lw,rfl,hx,hb⟩;have NLW:=qh (hx.mono KG.o.size);have NTP:=qh (NTP.o.below hb);have B2:=qh (B2.o.bl hb);have B3:=qh (B3.o.bl hb);have KG:=qk KG hb;clear hx hb O1
 go_upto_region 6 with (fail)
 obtain⟨V3,hV⟩:∃ V,V=w3.alloc (.cells #[.bool lw.s,.slice lw.a lw.n lw.c] 26):=⟨_,rfl⟩
 have hb:Below w3.heap.size w3 V3:=by rw[hV];exact zk.alloc zj _
 have B4:=qh (show Bxs V3 w3.heap.size 26 [.bool lw.s,.slice lw.a lw.n lw.c] by rw[hV];exact Bxs.new w3 26 [.bool lw.s,.slice lw.a lw.n lw.c]);obtain⟨A4,hA4⟩:∃ A,A=w3.heap.size:=⟨_,rfl⟩;rw[<- hV,<- hA4];rw[<- hA4] at B4;have H24:=qh (show A2≠A4 by rw[hA4];have:=B2.o.lt;omega);have H34:=qh (show A3≠A4 by rw[hA4];have:=B3.o.lt;omega);have HA4:=qh (show w.heap.size<=A4 by rw[hA4];exact KG.o.size);have NTP:=qh (NTP.o.below hb);have NLW:=qh (NLW.o.below hb);have B2:=qh (B2.o.bl hb);have B3:=qh (B3.o.bl hb);have KG:=qk KG hb;obtain⟨t0,q0,pb,po,rfl,hre0,hnf0,htp0⟩:=FZ.o.get HPOS.o;have HRE0:=qh hre0;have HNF0:=qh hnf0;have HTP0:=qh htp0;clear hb hV hA4 hre0 hnf0 htp0;go_wp2_with fail
 go_loopw [5] (fun i wr=>∃ (j:Nat) (tp lw:NV),i=.int .i64 j/\j<=zn/\Bxs wr A2 28 [.bool false,.slice none 0 0,.bool false,.slice none 0 0]/\Bxs wr A3 26 [.bool tp.s,.slice tp.a tp.n tp.c]/\Bxs wr A4 26 [.bool lw.s,.slice lw.a lw.n lw.c]/\DN wr w.heap.size tp (gT (P.take j) 0:Int)/\DN wr w.heap.size lw (lL (P.take j) 1:Int)/\Below w.heap.size w wr) (fun i _=>zn-(intOf i).toNat)
 case atStart=>exact⟨0,tp,lw,rfl,Nat.zero_le _,B2.o,B3.o,B4.o,NTP.o,NLW.o,KG.o⟩
 case round =>
  clear B2 B3 B4 NTP NLW KG;obtain⟨j,tp,lw,rfl,hj,hb2,hb3,hb4,htp,hlw,hb0⟩:=hrel;have HJ:=qh hj;have B2:=qh hb2;have B3:=qh hb3;have B4:=qh hb4;have KG:=qh hb0
  have LA:=qh (show Ja ((gT (P.take j) 0:Nat):Int).natAbs<=400000 from zm (by
   rw[Int.natAbs_natCast]
   exact jbf (by rw[Jr];omega) fun u hu=>⟨FZ.o.canon.non u (List.mem_of_mem_take hu),HP.o u (List.mem_of_mem_take hu)⟩) HK4.o)
  have LB:=qh (show Ja ((lL (P.take j) 1:Nat):Int).natAbs<=400000 from by
   rw[Int.natAbs_natCast]
   have h1:=VT (P:=P.take j) (l:=1) (k:=k) fun u hu=>HP.o u (List.mem_of_mem_take hu)
   rw[ZB] at h1;have h2:(P.take j).length*k<=P.length*k:=Nat.mul_le_mul_right _ (by rw[List.length_take];omega);have:=HK.o
   omega)
  obtain⟨zt,hzt⟩:∃ z:Int,z=((gT (P.take j) 0:Nat):Int):=⟨_,rfl⟩;obtain⟨zl,hzl⟩:∃ z:Int,z=((lL (P.take j) 1:Nat):Int):=⟨_,rfl⟩;have Hzt:=qh hzt;have Hzl:=qh hzl;rw[<- hzt] at htp LA;rw[<- hzl] at hlw LB;have NTP:=qh htp;have NLW:=qh hlw;have HTN:=qh (show tp.n<=10000000 from htp.k.len LA.o (by decide));have HLN:=qh (show lw.n<=10000000 from hlw.k.len LB.o (by decide));clear hj hb2 hb3 hb4 htp hlw hb0 hzt hzl;by_cases hjn:j<zn
  ·have HJN:=qh hjn;have HLT:=qh (show(j:Int)<(zn:Int) by omega);obtain⟨t,q,pb2,po2,he2,hre,hnf,htpj⟩:=FZ.o.get hjn
   obtain⟨rfl,rfl⟩:pb=pb2/\po=po2:=by injection he2 with he2;injection he2 with e1 e2;exact⟨e1,e2⟩
   have HRE:=qh hre;have HNF:=qh hnf;have HTPJ:=qh htpj;have HTQ:=qh (HP.o _ (List.mem_of_getElem? htpj));have NF1:=qh (hnf.below KG.o).t;have NF2:=qh (hnf.below KG.o).l;have E1:=qh (hre.below KG.o);have HN1:=qh (show t.c.t.n<=10000000 from hnf.t.len (zm HTQ.o.t HK4.o) (by decide));have HN2:=qh (show t.c.l.n<=10000000 from hnf.l.len (zm HTQ.o.l HK4.o) (by decide));obtain⟨zg,hzg⟩:∃ z:Int,z=((Int.gcd zt q.num:Nat):Int):=⟨_,rfl⟩;obtain⟨zh,hzh⟩:∃ z:Int,z=((Int.gcd zl (q.den:Int):Nat):Int):=⟨_,rfl⟩;obtain⟨zq,hzq⟩:∃ z:Int,z=(q.den:Int)/zh:=⟨_,rfl⟩;obtain⟨zr,hzr⟩:∃ z:Int,z=(q.den:Int)%zh:=⟨_,rfl⟩;have Hzg:=qh hzg;have Hzh:=qh hzh;have Hzq:=qh hzq;have Hzr:=qh hzr
   have HHZ:=qh (show zh≠0 by
    rw[hzh];intro h;have h2:=(Int.gcd_eq_zero_iff.1 (Int.natCast_eq_zero.1 h)).2
    have:=q.den_pos;omega)
   have LH:=qh (show Ja zh.natAbs<=400000 by rw[hzh];exact jav LB.o (zm HTQ.o.l HK4.o));have LQ9:=qh (show Ja zq.natAbs<=400004 by rw[hzq];exact jcv (k:=400003) (zm (zm HTQ.o.l HK4.o) (by decide)) (by decide) HHZ.o);have HS0:=qh KG.o.size;clear he2 hre hnf htpj hzg hzh hzq hzr hjn
   go_upto_region 9 with (fail)
   refine FS.Jc 8 [] (FS.JM [(7,FS.Sp.made (fun x:NV=>x.v) (fun x w'=>DN w' wr.heap.size x zg) NV.blk)])
    (fun w'=>Below wr.heap.size wr w') (by kernel_rfl) (by kernel_rfl) (by kernel_rfl)
    (FS.Jd (FS.Sp.Jg _ (fun _ _ _ h _ hk=>h.kept hk) (FS.JN (by kernel_rfl))) (FS.Jk)) (fun _ _ h hb=>h.trans (hb.mono h.size)) (zk.drew) ?_
   simp only[zu,zi,ze,zx,zy,zv,zw]
   iterate 7
    refine FS.Jb rfl rfl rfl ?_ (fun w' hw'=>?_) ?_;rotate_left
    ·have hb':=hw'.world;have hs0:=(B3.o.bl hb').ce 0;have hs1:=(B3.o.bl hb').ce 1;have hsf:=(B3.o.bl hb').fz;have hsl:=(B3.o.bl hb').lt;have hlt:=HLT.o;obtain⟨hs0,hs1,hs2,hs3,hs4,hs5,hs6,hs7⟩:=(E1.o.below hb').eight;clear hw';go_simp
     try rfl
    conv=>arg 10;simp only[Act.put,zq0,zq1,zq2]
   refine FS.Jf rfl rfl rfl (fun w' hw'=>?_) ?_
   ·have hb':=hw'.world;refine FS.Jn (FS.PM (fun x:NV=>x.v) (fun x w'=>DN w' wr.heap.size x zg) NV.blk w'.heap.size) ?_ (fun _ _ h=>h.post @NV.inj);go_simp;have CT:=(show Calls Tryz.prog 142 #[.agg #[.bool tp.s,.slice tp.a tp.n tp.c],.agg #[.bool t.c.t.s,.slice t.c.t.a t.c.t.n t.c.t.c]] w' _ from jfz (x:=tp) (y:=t.c.t) (NTP.o.below hb').k.any HTN.o (NF1.o.below hb').any HN1.o);rw[show((Int.gcd zt q.num:Nat):Int)=zg from Hzg.o.symm] at CT;refine CT.mono ?_;rintro e w'' ⟨za,rfl,ho,hb⟩;exact⟨_,rfl,⟨za,rfl,ho.mono hb'.size,ho.QK⟩,hb⟩
   rintro _ ⟨tg,rfl⟩
   conv=>arg 10;simp only[Act.put,zq0,zq1,zq2]
   refine FS.Jo (fun w101 hb hF=>?_);have N102:=qh (show DN w101 wr.heap.size tg zg from(FS.JU (val:=fun x:NV=>x.v) (Φ:=fun x w'=>DN w' wr.heap.size x zg) @NV.inj (hF.all 7)));clear hF;have NTP:=qh (NTP.o.below hb);have NLW:=qh (NLW.o.below hb);have NF1:=qh (NF1.o.below hb);have NF2:=qh (NF2.o.below hb);have B2:=qh (B2.o.bl hb);have B3:=qh (B3.o.bl hb);have B4:=qh (B4.o.bl hb);have KG:=qk KG hb;clear hb;have ca0:=B3.o.ce 0;have ca1:=B3.o.ce 1;have caf:=B3.o.fz;have cal:=B3.o.lt
   go_upto_region 10 with (fail)
   obtain⟨W1,hW⟩:∃ W,W=put2 w101 A3 (.bool tg.s) (.slice tg.a tg.n tg.c):=⟨_,rfl⟩;have NTG:=qh (show DN W1 w.heap.size tg zg by rw[hW];exact Z7 (N102.o.mono HS0.o) B3.o (by decide) ..);have NLW:=qh (show DN W1 w.heap.size lw zl by rw[hW];exact Z7 NLW.o B3.o (by decide) ..);have B2:=qh (show Bxs W1 A2 28 [.bool false,.slice none 0 0,.bool false,.slice none 0 0] by rw[hW];exact Xc B2.o H23.o ..);have B4:=qh (show Bxs W1 A4 26 [.bool lw.s,.slice lw.a lw.n lw.c] by rw[hW];exact Xc B4.o (Ne.symm H34.o) ..);have B3:=qh (show Bxs W1 A3 26 [.bool tg.s,.slice tg.a tg.n tg.c] by rw[hW];exact VN B3.o ..);have KG:=qh (show Below w.heap.size w W1 by rw[hW];exact Ke KG.o HA3.o ..);unfold put2 at hW;rw[<- hW];clear hW ca0 ca1 caf cal NTP;have NF1:=qh (HNF.o.below KG.o).t;have NF2:=qh (HNF.o.below KG.o).l;have E1:=qh (HRE.o.below KG.o);have HS1:=qh KG.o.size
   go_upto_region 10 with (fail)
   refine FS.Jc 9 [] (FS.JM [(7,FS.Sp.made (fun x:NV=>x.v) (fun x w'=>DN w' W1.heap.size x zh) NV.blk),(8,FS.Sp.box 26 2 W1.heap.size)])
    (fun w'=>Below W1.heap.size W1 w') (by kernel_rfl) (by kernel_rfl) (by kernel_rfl)
    (FS.Jd (FS.Sp.Jg _ (fun _ _ _ h _ hk=>h.kept hk) (FS.JN (by kernel_rfl))) (FS.Jd (FS.Sp.QU _ _ _ _) (FS.Jk))) (fun _ _ h hb=>h.trans (hb.mono h.size)) (zk.drew) ?_
   simp only[zu,zi,ze,zx,zy,zv,zw]
   iterate 7
    refine FS.Jb rfl rfl rfl ?_ (fun w' hw'=>?_) ?_;rotate_left
    ·have hb':=hw'.world;have hs0:=(B4.o.bl hb').ce 0;have hs1:=(B4.o.bl hb').ce 1;have hsf:=(B4.o.bl hb').fz;have hsl:=(B4.o.bl hb').lt;have hlt:=HLT.o;obtain⟨hs0,hs1,hs2,hs3,hs4,hs5,hs6,hs7⟩:=(E1.o.below hb').eight;clear hw';go_simp
     try rfl
    conv=>arg 10;simp only[Act.put,zq0,zq1,zq2]
   refine FS.Jf rfl rfl rfl (fun w' hw'=>?_) ?_
   ·have hb':=hw'.world;refine FS.Jn (FS.PM (fun x:NV=>x.v) (fun x w'=>DN w' W1.heap.size x zh) NV.blk w'.heap.size) ?_ (fun _ _ h=>h.post @NV.inj);go_simp;have CT:=(show Calls Tryz.prog 142 #[.agg #[.bool lw.s,.slice lw.a lw.n lw.c],.agg #[.bool t.c.l.s,.slice t.c.l.a t.c.l.n t.c.l.c]] w' _ from jfz (x:=lw) (y:=t.c.l) (NLW.o.below hb').k.any HLN.o (NF2.o.below hb').any HN2.o);rw[show((Int.gcd zl (q.den:Int):Nat):Int)=zh from Hzh.o.symm] at CT;refine CT.mono ?_;rintro e w'' ⟨za,rfl,ho,hb⟩;exact⟨_,rfl,⟨za,rfl,ho.mono hb'.size,ho.QK⟩,hb⟩
   rintro _ ⟨hh,rfl⟩
   conv=>arg 10;simp only[Act.put,zq0,zq1,zq2]
   refine FS.Jf rfl rfl rfl (fun w' hw'=>?_) ?_
   ·have hb':=hw'.world;refine FS.Jn (FS.PB 26 2 W1.heap.size w'.heap.size) ?_ (fun _ _ h=>h.post);go_simp;exact⟨FS.PB.new _ rfl hb'.size,zk.alloc zj _⟩
   rintro _ ⟨A6,rfl⟩
   conv=>arg 10;simp only[Act.put,zq0,zq1,zq2]
   refine FS.Jo (fun w202 hb hF=>?_);have N203:=qh (show DN w202 W1.heap.size hh zh from(FS.JU (val:=fun x:NV=>x.v) (Φ:=fun x w'=>DN w' W1.heap.size x zh) @NV.inj (hF.all 7)));have HX:=qh (FS.ZN (hF.all 8));have HBW:=qh hb;clear hF hb;obtain⟨c0,c1,hB⟩:=shp2 HX.o.1;have HBB:=qh hB;clear hB;have m0:=HBB.o.ce 0;have m1:=HBB.o.ce 1;have mf:=HBB.o.fz;have ml:=HBB.o.lt
   go_upto_region 11 with (fail)
   obtain⟨v204,hV⟩:∃ V,V=(w202.setCell ⟨A6,0,none⟩ (.bool hh.s)).setCell ⟨A6,1,none⟩ (.slice hh.a hh.n hh.c):=⟨_,rfl⟩
   have hbV:Below W1.heap.size W1 v204:=by rw[hV];exact((HBW.o.setCell HX.o.2 _).setCell HX.o.2 _)
   have BX201:=qh (show Bxs v204 A6 26 [.bool hh.s,.slice hh.a hh.n hh.c] by rw[hV];exact((HBB.o.put 0 _).put 1 _));have N203:=qh (show DN v204 W1.heap.size hh zh by rw[hV];exact((N203.o.Jt HBB.o (by decide) 0 _).Jt (HBB.o.put 0 _) (by decide) 1 _));rw[show(w202.setCell ⟨A6,0,none⟩ (.bool hh.s)).setCell ⟨A6,1,none⟩ (.slice hh.a hh.n hh.c)=v204 from hV.symm];clear m0 m1 mf ml HX HBW HBB;have NTG:=qh (NTG.o.below hbV);have NLW:=qh (NLW.o.below hbV);have NF1:=qh (NF1.o.below hbV);have NF2:=qh (NF2.o.below hbV);have B2:=qh (B2.o.bl hbV);have B3:=qh (B3.o.bl hbV);have B4:=qh (B4.o.bl hbV);have KG:=qk KG hbV;clear hV hbV;have NHH:=qh (N203.o.mono HS1.o);have HHN:=qh (show hh.n<=10000000 from NHH.o.k.len LH.o (by decide));have B6:=BX201;have E1:=qh (HRE.o.below KG.o);have HS2:=qh KG.o.size
   go_upto_region 11 with (fail)
   refine FS.Jc 16 [(14,12),(15,13)] (FS.JM [(7,FS.Sp.made (NV2.v 0) (fun x w'=>DN w' v204.heap.size x.p zq/\DN w' v204.heap.size x.q zr) NV2.blk),(12,FS.Sp.box 26 2 v204.heap.size),(13,FS.Sp.box 26 2 v204.heap.size)])
    (fun w'=>Below v204.heap.size v204 w') (by kernel_rfl) (by kernel_rfl) (by kernel_rfl)
    (FS.Jd (FS.Sp.Jg _ (fun _ _ _ h _ hk=>⟨h.1.kept fun b hb=>hk b (Or.inl hb),h.2.kept fun b hb=>hk b (Or.inr hb)⟩) (FS.JN (by kernel_rfl))) (FS.Jd (FS.Sp.QU _ _ _ _) (FS.Jd (FS.Sp.QU _ _ _ _) (FS.Jk)))) (fun _ _ h hb=>h.trans (hb.mono h.size)) (zk.drew) ?_
   simp only[zu,zi,ze,zx,zy,zv,zw]
   iterate 7
    refine FS.Jb rfl rfl rfl ?_ (fun w' hw'=>?_) ?_;rotate_left
    ·have hb':=hw'.world;have hlt:=HLT.o;obtain⟨hs0,hs1,hs2,hs3,hs4,hs5,hs6,hs7⟩:=(E1.o.below hb').eight;have hs0:=(B6.o.bl hb').ce 0;have hs1:=(B6.o.bl hb').ce 1;have hsf:=(B6.o.bl hb').fz;have hsl:=(B6.o.bl hb').lt;clear hw';go_simp
     try rfl
    conv=>arg 10;simp only[Act.put,zq0,zq1,zq2]
   refine FS.Jf rfl rfl rfl (fun w' hw'=>?_) ?_
   ·have hb':=hw'.world;refine FS.Jn (FS.PM (NV2.v 0) (fun x w'=>DN w' v204.heap.size x.p zq/\DN w' v204.heap.size x.q zr) NV2.blk w'.heap.size) ?_ (fun _ _ h=>h.post (NV2.inj 0));go_simp;have CT:=(show Calls Tryz.prog 143 #[.agg #[.bool t.c.l.s,.slice t.c.l.a t.c.l.n t.c.l.c],.agg #[.bool hh.s,.slice hh.a hh.n hh.c]] w' _ from refDivN (x:=t.c.l) (y:=hh) (NF2.o.below hb') HN2.o (NHH.o.below hb').k HHN.o HHZ.o);rw[show(q.den:Int)/zh=zq from Hzq.o.symm] at CT;rw[show(q.den:Int)%zh=zr from Hzr.o.symm] at CT;refine CT.mono ?_;rintro e w'' ⟨za,zb,rfl,ho,ho',hb⟩;exact⟨_,rfl,⟨⟨za,zb⟩,rfl,⟨ho.mono hb'.size,ho'.mono hb'.size⟩,fun b hb=>hb.elim (ho.QK b) (ho'.QK b)⟩,hb⟩
   rintro _ ⟨y7,rfl⟩
   conv=>arg 10;simp only[Act.put,zq0,zq1,zq2]
   iterate 4
    refine FS.Jb rfl rfl rfl ?_ (fun w' hw'=>?_) ?_;rotate_left
    ·have hb':=hw'.world;skip;clear hw';go_simp
     try rfl
    conv=>arg 10;simp only[Act.put,zq0,zq1,zq2]
   refine FS.Jf rfl rfl rfl (fun w' hw'=>?_) ?_
   ·have hb':=hw'.world;refine FS.Jn (FS.PB 26 2 v204.heap.size w'.heap.size) ?_ (fun _ _ h=>h.post);go_simp;exact⟨FS.PB.new _ rfl hb'.size,zk.alloc zj _⟩
   rintro _ ⟨y12,rfl⟩
   conv=>arg 10;simp only[Act.put,zq0,zq1,zq2]
   refine FS.Jf rfl rfl rfl (fun w' hw'=>?_) ?_
   ·have hb':=hw'.world;refine FS.Jn (FS.PB 26 2 v204.heap.size w'.heap.size) ?_ (fun _ _ h=>h.post);go_simp;exact⟨FS.PB.new _ rfl hb'.size,zk.alloc zj _⟩
   rintro _ ⟨y13,rfl⟩
   conv=>arg 10;simp only[Act.put,zq0,zq1,zq2]
   refine FS.Xe rfl rfl 12 rfl rfl rfl rfl (fun _=>Iff.rfl) (fun w' hw'=>?_) ?_
   ·have hb':=hw'.world;have hX:=FS.ZN (hw'.fact 12 (by kernel_rfl));obtain⟨c0,c1,hB⟩:=shp2 hX.1;have m0:=hB.ce 0;have m1:=hB.ce 1;have mf:=hB.fz;have ml:=hB.lt;refine FS.Xf ?_ (jbc hb' hX.2 hB (.bool y7.p.s) (.slice y7.p.a y7.p.n y7.p.c));clear hw';go_simp
    try rfl
   conv=>arg 10;simp only[Act.put,zq0,zq1,zq2]
   refine FS.Xe rfl rfl 13 rfl rfl rfl rfl (fun _=>Iff.rfl) (fun w' hw'=>?_) ?_
   ·have hb':=hw'.world;have hX:=FS.ZN (hw'.fact 13 (by kernel_rfl));obtain⟨c0,c1,hB⟩:=shp2 hX.1;have m0:=hB.ce 0;have m1:=hB.ce 1;have mf:=hB.fz;have ml:=hB.lt;refine FS.Xf ?_ (jbc hb' hX.2 hB (.bool y7.q.s) (.slice y7.q.a y7.q.n y7.q.c));clear hw';go_simp
    try rfl
   conv=>arg 10;simp only[Act.put,zq0,zq1,zq2]
   refine FS.Jo (fun w303 hb hF=>?_);have BX301:=qh (show Bxs w303 y12 26 [.bool y7.p.s,.slice y7.p.a y7.p.n y7.p.c] from QQ (hF.all 14));have N304:=qh (show DN w303 v204.heap.size y7.p zq from(FS.JU (val:=NV2.v 0) (Φ:=fun x w'=>DN w' v204.heap.size x.p zq/\DN w' v204.heap.size x.q zr) (NV2.inj 0) (hF.all 7)).1);have BX302:=qh (show Bxs w303 y13 26 [.bool y7.q.s,.slice y7.q.a y7.q.n y7.q.c] from QQ (hF.all 15));have N305:=qh (show DN w303 v204.heap.size y7.q zr from(FS.JU (val:=NV2.v 0) (Φ:=fun x w'=>DN w' v204.heap.size x.p zq/\DN w' v204.heap.size x.q zr) (NV2.inj 0) (hF.all 7)).2);clear hF;have NTG:=qh (NTG.o.below hb);have NLW:=qh (NLW.o.below hb);have NF1:=qh (NF1.o.below hb);have NF2:=qh (NF2.o.below hb);have NHH:=qh (NHH.o.below hb);have B2:=qh (B2.o.bl hb);have B3:=qh (B3.o.bl hb);have B4:=qh (B4.o.bl hb);have B6:=qh (B6.o.bl hb);have KG:=qk KG hb;clear hb;have NQQ:=qh (N304.o.mono HS2.o);have CT:=qh (show Calls Tryz.prog 144 #[.agg #[.bool lw.s,.slice lw.a lw.n lw.c],.agg #[.bool y7.p.s,.slice y7.p.a y7.p.n y7.p.c]] w303 _ from refMulN (x:=lw) (y:=y7.p) NLW.o.k.any HLN.o NQQ.o.k.any (NQQ.o.k.len LQ9.o (by decide)));have cb0:=B4.o.ce 0;have cb1:=B4.o.ce 1;have cbf:=B4.o.fz;have cbl:=B4.o.lt;have cc0:=BX301.o.ce 0;have cc1:=BX301.o.ce 1;have ccf:=BX301.o.fz;have ccl:=BX301.o.lt;have ek:IntKind.i64.wrap ((j:Int)+1)=(j:Int)+1:=IntWalk.i64_in _ (by have:=HJN.o;have:=HN.o;omega)
   go_wp2_with fail
   with_reducible refine CT.o.mono ?_
   rintro e w12 ⟨mm,rfl,hx,hb⟩;have HS3:=qh KG.o.size;have NMM:=qh (hx.mono HS3.o);have NTG:=qh (NTG.o.below hb);have B2:=qh (B2.o.bl hb);have B3:=qh (B3.o.bl hb);have B4:=qh (B4.o.bl hb);have KG:=qk KG hb;clear hx hb CT cb0 cb1 cbf cbl cc0 cc1 ccf ccl;have cb0:=B4.o.ce 0;have cb1:=B4.o.ce 1;have cbf:=B4.o.fz;have cbl:=B4.o.lt;go_wp2_with fail
   go_roundw
   case rel =>
    refine⟨j+1,tg,mm,rfl,HJN.o,Xc B2.o H24.o ..,Xc B3.o H34.o ..,VN B4.o ..,?_,?_,Ke KG.o HA4.o ..⟩
    ·rw[jfr P j _ HTPJ.o,show((Nat.gcd (gT (P.take j) 0) q.num.natAbs:Nat):Int)=zg by rw[Hzg.o,Hzt.o];rfl];exact Z7 NTG.o B4.o (by decide) ..
    ·rw[jfs P j _ HTPJ.o,show((lL (P.take j) 1*(q.den/Nat.gcd (lL (P.take j) 1) q.den):Nat):Int)=zl*zq by rw[Hzq.o,Hzh.o,Hzl.o,Int.natCast_mul,Int.natCast_ediv];rfl];exact Z7 NMM.o B4.o (by decide) ..
   case measure=>simp[intOf];have:=HJN.o;omega
  ·have hge:¬((j:Int)<(zn:Int)):=by omega
   have HAL:=qh (show P.take j=P from List.take_of_length_le (by have:=HPL.o;have:=HJ.o;omega));have Hzt:=qh (show zt=((gT P 0:Nat):Int) by have h:=Hzt.o;rw[HAL.o] at h;exact h);have Hzl:=qh (show zl=((lL P 1:Nat):Int) by have h:=Hzl.o;rw[HAL.o] at h;exact h);have HTQ0:=qh (HP.o _ (List.mem_of_getElem? HTP0.o));have NF0:=qh (HNF0.o.below KG.o);have E0:=qh (HRE0.o.below KG.o);obtain⟨sg,hsg⟩:∃ s,s=Jv q0.num 0:=⟨_,rfl⟩;have HSG:=qh hsg;have CT:=qh (show Calls Tryz.prog 77 #[.agg #[.bool t0.c.t.s,.slice t0.c.t.a t0.c.t.n t0.c.t.c,.bool t0.c.l.s,.slice t0.c.l.a t0.c.l.n t0.c.l.c]] wr _ from Kt (x:=t0.c) NF0.o.any (NF0.o.len (HTQ0.o.up HK4.o) (by decide)));rw[<- hsg] at CT;obtain⟨c0,c1,c2,c3,c4,c5,c6,c7⟩:=E0.o.eight;simp only[Nat.zero_mul,Nat.add_zero] at c0 c1 c2 c3 c4 c5 c6 c7
   have hz0:(0:Int)<(zn:Int):=by have:=HPOS.o;omega
   clear hjn hsg;go_wp2_with fail
   with_reducible refine CT.o.mono ?_
   rintro e w5 ⟨rfl,hb⟩;have NTP:=qh (NTP.o.below hb);have NLW:=qh (NLW.o.below hb);have B2:=qh (B2.o.bl hb);have B3:=qh (B3.o.bl hb);have B4:=qh (B4.o.bl hb);have KG:=qk KG hb;have HZL:=qh (show zl≠0 by rw[Hzl.o];have:=VO P 1 (by decide);omega);have HSZ:=qh (show w.heap.size<=A2 by rw[HA2.o];exact zj);clear hb CT c0 c1 c2 c3 c4 c5 c6 c7 hz0;by_cases hs:sg<0
   ·have HSN:=qh hs;have CN:=qh (show Calls Tryz.prog 145 #[.agg #[.bool tp.s,.slice tp.a tp.n tp.c]] w5 _ from refNegN (x:=tp) NTP.o.k.any HTN.o);have ca0:=B3.o.ce 0;have ca1:=B3.o.ce 1;have caf:=B3.o.fz;have cal:=B3.o.lt;go_wp2_with fail
    with_reducible refine CN.o.mono ?_
    rintro e w6 ⟨tn,rfl,hx,hb⟩;have HS3:=qh KG.o.size;have NTN:=qh (hx.mono HS3.o);have NLW:=qh (NLW.o.below hb);have B2:=qh (B2.o.bl hb);have B3:=qh (B3.o.bl hb);have B4:=qh (B4.o.bl hb);have KG:=qk KG hb;clear hx hb CN ca0 ca1 caf cal;have ca0:=B3.o.ce 0;have ca1:=B3.o.ce 1;have caf:=B3.o.fz;have cal:=B3.o.lt
    go_upto_region 15 with (fail)
    obtain⟨W7,hW⟩:∃ W,W=put2 w6 A3 (.bool tn.s) (.slice tn.a tn.n tn.c):=⟨_,rfl⟩;have NTN:=qh (show DN W7 w.heap.size tn (-zt) by rw[hW];exact Z7 NTN.o B3.o (by decide) ..);have NLW:=qh (show DN W7 w.heap.size lw zl by rw[hW];exact Z7 NLW.o B3.o (by decide) ..);have B2:=qh (show Bxs W7 A2 28 [.bool false,.slice none 0 0,.bool false,.slice none 0 0] by rw[hW];exact Xc B2.o H23.o ..);have B4:=qh (show Bxs W7 A4 26 [.bool lw.s,.slice lw.a lw.n lw.c] by rw[hW];exact Xc B4.o (Ne.symm H34.o) ..);have B3:=qh (show Bxs W7 A3 26 [.bool tn.s,.slice tn.a tn.n tn.c] by rw[hW];exact VN B3.o ..);have KG:=qh (show Below w.heap.size w W7 by rw[hW];exact Ke KG.o HA3.o ..);unfold put2 at hW;rw[<- hW];clear hW ca0 ca1 caf cal
    have HV:=qh (show((-zt:Int):Rat)/((zl:Int):Rat)=JW P by
     rw[cont_head HTP0.o,<- HSG.o,cmp_neg HSG.o HSN.o,Hzt.o,Hzl.o]
     exact neg_over _ _)
    have CM:=qh (show Calls Tryz.prog 146 #[.agg #[.bool tn.s,.slice tn.a tn.n tn.c],.agg #[.bool lw.s,.slice lw.a lw.n lw.c]] W7 _ from jc6 (x:=tn) (y:=lw) NTN.o.k (NTN.o.k.len (by rw[Int.natAbs_neg];exact LA.o) (by decide)) NLW.o.k (NLW.o.k.len LB.o (by decide)) HZL.o);rw[HV.o] at CM;have ca0:=B3.o.ce 0;have ca1:=B3.o.ce 1;have caf:=B3.o.fz;have cal:=B3.o.lt;have cb0:=B4.o.ce 0;have cb1:=B4.o.ce 1;have cbf:=B4.o.fz;have cbl:=B4.o.lt;go_wp2_with fail
    with_reducible refine CM.o.mono ?_
    rintro e w8 ⟨cc,rfl,hx,hb⟩;have HS4:=qh KG.o.size;have NCC:=qh (hx.mono HS4.o);have B2:=qh (B2.o.bl hb);have KG:=qk KG hb;clear hx hb CM ca0 ca1 caf cal cb0 cb1 cbf cbl
    go_upto_region 16 with (fail)
    obtain⟨W9,hW⟩:∃ W,W=w8.alloc (.cells #[.bool cc.t.s,.slice cc.t.a cc.t.n cc.t.c,.bool cc.l.s,.slice cc.l.a cc.l.n cc.l.c] 28):=⟨_,rfl⟩
    have hb:Below w8.heap.size w8 W9:=by rw[hW];exact zk.alloc zj _
    have B9:=qh (show Bxs W9 w8.heap.size 28 [.bool cc.t.s,.slice cc.t.a cc.t.n cc.t.c,.bool cc.l.s,.slice cc.l.a cc.l.n cc.l.c] by rw[hW];exact Bxs.new w8 28 [.bool cc.t.s,.slice cc.t.a cc.t.n cc.t.c,.bool cc.l.s,.slice cc.l.a cc.l.n cc.l.c]);rw[<- hW];have NCC:=qh (NCC.o.below hb);have B2:=qh (B2.o.bl hb);have KG:=qk KG hb;clear hW hb;have d0:=B9.o.ce 0;have d1:=B9.o.ce 1;have d2:=B9.o.ce 2;have d3:=B9.o.ce 3;have d4:=B2.o.ce 0;have d5:=B2.o.ce 1;have d6:=B2.o.ce 2;have d7:=B2.o.ce 3;have df:=B2.o.fz;have dl:=B2.o.lt;have HD:=qh (show EF (Yb W9 A2 (.bool cc.t.s) (.slice cc.t.a cc.t.n cc.t.c) (.bool cc.l.s) (.slice cc.l.a cc.l.n cc.l.c)) w.heap.size cc (JW P) from ja1 NCC.o B2.o (by decide) ..);have HBB:=qh (show Below w.heap.size w (Yb W9 A2 (.bool cc.t.s) (.slice cc.t.a cc.t.n cc.t.c) (.bool cc.l.s) (.slice cc.l.a cc.l.n cc.l.c)) from Qg KG.o HSZ.o ..);go_wp2_with fail
    exact bodyPost_ret (Je rfl _ _ _ _ _ _ _ rfl (QN B2.o ..) Tryz.underlying28 rfl (by kernel_rfl)) rfl ⟨cc,rfl,HD.o,HBB.o⟩
   ·have HSN:=qh hs
    have HV:=qh (show((zt:Int):Rat)/((zl:Int):Rat)=JW P by
     rw[cont_head HTP0.o,<- HSG.o,cmp_pos HSG.o HSN.o (FZ.o.canon.non _ (List.mem_of_getElem? HTP0.o)),Hzt.o,Hzl.o]
     exact(Rat.mul_one _).symm)
    have CM:=qh (show Calls Tryz.prog 146 #[.agg #[.bool tp.s,.slice tp.a tp.n tp.c],.agg #[.bool lw.s,.slice lw.a lw.n lw.c]] w5 _ from jc6 (x:=tp) (y:=lw) NTP.o.k (NTP.o.k.len LA.o (by decide)) NLW.o.k (NLW.o.k.len LB.o (by decide)) HZL.o);rw[HV.o] at CM;have ca0:=B3.o.ce 0;have ca1:=B3.o.ce 1;have caf:=B3.o.fz;have cal:=B3.o.lt;have cb0:=B4.o.ce 0;have cb1:=B4.o.ce 1;have cbf:=B4.o.fz;have cbl:=B4.o.lt;go_wp2_with fail
    with_reducible refine CM.o.mono ?_
    rintro e w8 ⟨cc,rfl,hx,hb⟩;have HS4:=qh KG.o.size;have NCC:=qh (hx.mono HS4.o);have B2:=qh (B2.o.bl hb);have KG:=qk KG hb;clear hx hb CM ca0 ca1 caf cal cb0 cb1 cbf cbl
    go_upto_region 16 with (fail)
    obtain⟨W9,hW⟩:∃ W,W=w8.alloc (.cells #[.bool cc.t.s,.slice cc.t.a cc.t.n cc.t.c,.bool cc.l.s,.slice cc.l.a cc.l.n cc.l.c] 28):=⟨_,rfl⟩
    have hb:Below w8.heap.size w8 W9:=by rw[hW];exact zk.alloc zj _
    have B9:=qh (show Bxs W9 w8.heap.size 28 [.bool cc.t.s,.slice cc.t.a cc.t.n cc.t.c,.bool cc.l.s,.slice cc.l.a cc.l.n cc.l.c] by rw[hW];exact Bxs.new w8 28 [.bool cc.t.s,.slice cc.t.a cc.t.n cc.t.c,.bool cc.l.s,.slice cc.l.a cc.l.n cc.l.c]);rw[<- hW];have NCC:=qh (NCC.o.below hb);have B2:=qh (B2.o.bl hb);have KG:=qk KG hb;clear hW hb;have d0:=B9.o.ce 0;have d1:=B9.o.ce 1;have d2:=B9.o.ce 2;have d3:=B9.o.ce 3;have d4:=B2.o.ce 0;have d5:=B2.o.ce 1;have d6:=B2.o.ce 2;have d7:=B2.o.ce 3;have df:=B2.o.fz;have dl:=B2.o.lt;have HD:=qh (show EF (Yb W9 A2 (.bool cc.t.s) (.slice cc.t.a cc.t.n cc.t.c) (.bool cc.l.s) (.slice cc.l.a cc.l.n cc.l.c)) w.heap.size cc (JW P) from ja1 NCC.o B2.o (by decide) ..);have HBB:=qh (show Below w.heap.size w (Yb W9 A2 (.bool cc.t.s) (.slice cc.t.a cc.t.n cc.t.c) (.bool cc.l.s) (.slice cc.l.a cc.l.n cc.l.c)) from Qg KG.o HSZ.o ..);go_wp2_with fail
    exact bodyPost_ret (Je rfl _ _ _ _ _ _ _ rfl (QN B2.o ..) Tryz.underlying28 rfl (by kernel_rfl)) rfl ⟨cc,rfl,HD.o,HBB.o⟩
theorem jab (x:PV) (w:World) (hx:AP w x []) (hn:x.n<=1000000) :
  Calls Tryz.prog 34 #[x.v] w (RKV w 0):=by
 obtain⟨⟨za,zn,zc⟩,hz,hzn,hct⟩:=jet hx (fun t ht=>(by cases ht)) (by omega);obtain⟨V,hV⟩:∃ V,V=w.alloc (.cells #[.bool false,.slice none 0 0,.bool false,.slice none 0 0] 28):=⟨_,rfl⟩
 have hbV:Below w.heap.size w V:=by rw[hV];exact zk.alloc zj _
 have B2:=qh (show Bxs V w.heap.size 28 [.bool false,.slice none 0 0,.bool false,.slice none 0 0] by rw[hV];exact Bxs.new w 28 [.bool false,.slice none 0 0,.bool false,.slice none 0 0]);have CT:=qh (hct V hbV);obtain rfl:zn=0:=hz.len;have KG:=qh hbV;have HV:=qh hV;obtain⟨A2,hA2⟩:∃ A,A=w.heap.size:=⟨_,rfl⟩;have HA2:=qh hA2;rw[<- hA2] at B2;obtain⟨xa,xn,xc⟩:=x;clear hx hn hz hzn hct hbV hV hA2;change Calls Tryz.prog 34 #[.slice xa xn xc] w _;go_enter Tryz.func34,Tryz.ntmps34
 go_upto_region 1 with (fail)
 rw[show w.alloc (.cells #[.bool false,.slice none 0 0,.bool false,.slice none 0 0] 28)=V from HV.o.symm,show w.heap.size=A2 from HA2.o.symm];go_wp2_with fail
 with_reducible refine CT.o.mono ?_
 rintro e w1 ⟨he,hb⟩;obtain rfl:e=.returned (.slice za 0 zc):=he;have B2:=qh (B2.o.bl hb);have KG:=qk KG hb;have O0:=qh (rofV 0 w1 (by decide) (by decide));have HSZ:=qh (show w.heap.size<=A2 by rw[HA2.o];exact zj);clear hb CT;go_wp2_with fail
 with_reducible refine O0.o.mono ?_
 rintro e w2 ⟨cc,rfl,hx,hb⟩;have HS4:=qh KG.o.size;have NCC:=qh (hx.mono HS4.o);have B2:=qh (B2.o.bl hb);have KG:=qk KG hb;clear hx hb O0;have d4:=B2.o.ce 0;have d5:=B2.o.ce 1;have d6:=B2.o.ce 2;have d7:=B2.o.ce 3;have df:=B2.o.fz;have dl:=B2.o.lt;have HD:=qh (show EF (Yb w2 A2 (.bool cc.t.s) (.slice cc.t.a cc.t.n cc.t.c) (.bool cc.l.s) (.slice cc.l.a cc.l.n cc.l.c)) w.heap.size cc ((0:Int):Rat) from ja1 NCC.o B2.o (by decide) ..);have HBB:=qh (show Below w.heap.size w (Yb w2 A2 (.bool cc.t.s) (.slice cc.t.a cc.t.n cc.t.c) (.bool cc.l.s) (.slice cc.l.a cc.l.n cc.l.c)) from Qg KG.o HSZ.o ..);go_wp2_with fail
 exact bodyPost_ret (Je rfl _ _ _ _ _ _ _ rfl (QN B2.o ..) Tryz.underlying28 rfl (by kernel_rfl)) rfl ⟨cc,rfl,HD.o,HBB.o⟩
theorem Km {x:PV} {P:List Tm} {k:Nat} {w:World} (hx:AP w x P) (hn:x.n<=1000000) (hp:∀ t∈P,LQ t.2 k) (hk:P.length*k+1<=400000) (hk4:k<=400000) :
  Calls Tryz.prog 34 #[x.v] w (RKV w (JW P)):=by
 by_cases h:P=[]
 ·subst h;exact jab x w hx hn
 ·exact jbu x P k w hx hp hn hk hk4 h
theorem jhs (x:PV) (P:List Tm) (k kc:Nat) (w:World) (hx:AP w x P) (hP:Canon P) (hp:∀ t∈P,LQ t.2 k) (hn:x.n<=1000000) (hk:P.length*k+1<=400000) (hk4:k<=400000) (hc:LQ (JW P) kc) (hc4:kc<=400000) :
  Calls Tryz.prog 35 #[x.v] w fun e w'=>∃ y:PV,e=.returned y.v/\EP w' w.heap.size y (Xj P)/\Below w.heap.size w w':=by
 have CT:=qh (Km hx hn hp hk hk4);have HX:=qh hx;have HP:=qh hp;have HN:=qh hn;have HK4:=qh hk4;have HCN:=qh hP;have LQC:=qh (hc.up hc4);obtain⟨qc,hqc⟩:∃ q,q=JW P:=⟨_,rfl⟩;have HQC:=qh hqc;rw[<- hqc] at CT LQC;obtain⟨xa,xn,xc⟩:=x;clear hx hP hp hn hk hk4 hc hc4 hqc;change Calls Tryz.prog 35 #[.slice xa xn xc] w _;go_enter Tryz.func35,Tryz.ntmps35;go_wp2_with fail
 with_reducible refine CT.o.mono ?_
 rintro e w1 ⟨cc,rfl,hcc,hb⟩;have KG:=qh hb;have NCC:=qh hcc.k;clear hb hcc CT
 go_upto_region 2 with (fail)
 obtain⟨w2,hV⟩:∃ V,V=w1.alloc (.cells #[.bool cc.t.s,.slice cc.t.a cc.t.n cc.t.c,.bool cc.l.s,.slice cc.l.a cc.l.n cc.l.c] 28):=⟨_,rfl⟩
 have hb:Below w1.heap.size w1 w2:=by rw[hV];exact zk.alloc zj _
 have B3:=qh (show Bxs w2 w1.heap.size 28 [.bool cc.t.s,.slice cc.t.a cc.t.n cc.t.c,.bool cc.l.s,.slice cc.l.a cc.l.n cc.l.c] by rw[hV];exact Bxs.new w1 28 [.bool cc.t.s,.slice cc.t.a cc.t.n cc.t.c,.bool cc.l.s,.slice cc.l.a cc.l.n cc.l.c]);obtain⟨A3,hA⟩:∃ A,A=w1.heap.size:=⟨_,rfl⟩;rw[<- hV,<- hA];rw[<- hA] at B3;have NCC:=qh (NCC.o.below hb);have KG:=qk KG hb;have HLC:=qh (show LF cc 900000 from NCC.o.len LQC.o (by decide));obtain⟨sg,hsg⟩:∃ s,s=Jv qc.num 0:=⟨_,rfl⟩;have HSG:=qh hsg;have CS:=qh (show Calls Tryz.prog 77 #[.agg #[.bool cc.t.s,.slice cc.t.a cc.t.n cc.t.c,.bool cc.l.s,.slice cc.l.a cc.l.n cc.l.c]] w2 _ from Kt (x:=cc) NCC.o.any HLC.o);rw[<- hsg] at CS;clear hb hV hA hsg;have c0:=B3.o.ce 0;have c1:=B3.o.ce 1;have c2:=B3.o.ce 2;have c3:=B3.o.ce 3;go_wp2_with fail
 with_reducible refine CS.o.mono ?_
 rintro e w3 ⟨rfl,hb⟩;have NCC:=qh (NCC.o.below hb);have B3:=qh (B3.o.bl hb);have KG:=qk KG hb;clear hb CS c0 c1 c2 c3;by_cases hz:sg=0
 ·have HZ:=qh (show Xj P=[] by
   have h:JW P=0:=by rw[<- HQC.o];exact V4.1 (HSG.o.symm.trans hz)
   by_cases hne:P=[]
   ·rw[hne];exact jge
   ·exact absurd h (contP_ne HCN.o hne))
  go_wp2_with fail
  go_ret;exact⟨⟨none,0,0⟩,rfl,by rw[HZ.o];exact EP.nil,KG.o⟩
 ·have HCZ:=qh (show qc≠0 from fun h=>hz (HSG.o.trans (V4.2 h)));have HPR:=qh (show Qp (((1:Int):Rat)/qc) P=Xj P by rw[HQC.o];rfl);have HS3:=qh KG.o.size;have LQ1:=qh (show LQ ((1:Int):Rat) 3 from lq_one);have LQD:=qh (show LQ (((1:Int):Rat)/qc) 900000 from LQ.div HCZ.o (LQ1.o.up (by decide)) LQC.o (by decide))
  go_upto_region 4 with (fail)
  refine FS.Jc 8 [(7,6)] (FS.JM [(0,FS.Sp.made (fun x:FV=>x.v) (fun x w'=>EF w' w3.heap.size x ((1:Int):Rat)) FV.blk),(2,FS.Sp.made (fun x:FV=>Value.tuple #[x.v,.int .i64 0]) (fun x w'=>EF w' w3.heap.size x (((1:Int):Rat)/qc)) FV.blk),(6,FS.Sp.box 28 4 w3.heap.size)])
   (fun w'=>Below w3.heap.size w3 w') (by kernel_rfl) (by kernel_rfl) (by kernel_rfl)
   (FS.Jd (FS.Sp.Jg _ (fun _ _ _ h _ hk=>h.kept hk) (FS.JN (by kernel_rfl))) (FS.Jd (FS.Sp.Jg _ (fun _ _ _ h _ hk=>h.kept hk) (FS.JN (by kernel_rfl))) (FS.Jd (FS.Sp.QU _ _ _ _) (FS.Jk)))) (fun _ _ h hb=>h.trans (hb.mono h.size)) (zk.drew) ?_
  simp only[zu,zi,ze,zx,zy,zv,zw];refine FS.Jf rfl rfl rfl (fun w' hw'=>?_) ?_
  ·have hb':=hw'.world;refine FS.Jn (FS.PM (fun x:FV=>x.v) (fun x w'=>EF w' w3.heap.size x ((1:Int):Rat)) FV.blk w'.heap.size) ?_ (fun _ _ h=>h.post (fun _ _=>FV.inj));go_simp;have CT:=(show Calls Tryz.prog 76 #[.int .i64 1] w' _ from rofV 1 w' (by decide) (by decide));refine CT.mono ?_;rintro e w'' ⟨za,rfl,ho,hb⟩;exact⟨_,rfl,⟨za,rfl,ho.mono hb'.size,ho.QK⟩,hb⟩
  rintro _ ⟨y0,rfl⟩
  conv=>arg 10;simp only[Act.put,zq0,zq1,zq2]
  refine FS.Jb rfl rfl rfl ?_ (fun w' hw'=>?_) ?_;rotate_left
  ·have hb':=hw'.world;have hs0:=(B3.o.bl hb').ce 0;have hs1:=(B3.o.bl hb').ce 1;have hs2:=(B3.o.bl hb').ce 2;have hs3:=(B3.o.bl hb').ce 3;have hsf:=(B3.o.bl hb').fz;have hsl:=(B3.o.bl hb').lt;clear hw';go_simp
   try rfl
  conv=>arg 10;simp only[Act.put,zq0,zq1,zq2]
  refine FS.Jf rfl rfl rfl (fun w' hw'=>?_) ?_
  ·have hb':=hw'.world;refine FS.Jn (FS.PM (fun x:FV=>Value.tuple #[x.v,.int .i64 0]) (fun x w'=>EF w' w3.heap.size x (((1:Int):Rat)/qc)) FV.blk w'.heap.size) ?_ (fun _ _ h=>h.post (FV.injE 0));go_simp;have f0:=FS.JU (val:=(fun x:FV=>x.v)) (Φ:=fun x w'=>EF w' w3.heap.size x ((1:Int):Rat)) (fun _ _=>FV.inj) (hw'.fact 0 (by kernel_rfl));have CT:=(show Calls Tryz.prog 147 #[.agg #[.bool y0.t.s,.slice y0.t.a y0.t.n y0.t.c,.bool y0.l.s,.slice y0.l.a y0.l.n y0.l.c],.agg #[.bool cc.t.s,.slice cc.t.a cc.t.n cc.t.c,.bool cc.l.s,.slice cc.l.a cc.l.n cc.l.c]] w' _ from rdivV (x:=y0) (y:=cc) f0.k (f0.k.len LQ1.o (by decide)) (NCC.o.below hb') HLC.o HCZ.o);refine CT.mono ?_;rintro e w'' ⟨za,rfl,ho,hb⟩;exact⟨_,rfl,⟨za,rfl,ho.mono hb'.size,ho.QK⟩,hb⟩
  rintro _ ⟨y2,rfl⟩
  conv=>arg 10;simp only[Act.put,zq0,zq1,zq2]
  iterate 3
   refine FS.Jb rfl rfl rfl ?_ (fun w' hw'=>?_) ?_;rotate_left
   ·have hb':=hw'.world;skip;clear hw';go_simp
    try rfl
   conv=>arg 10;simp only[Act.put,zq0,zq1,zq2]
  refine FS.Jf rfl rfl rfl (fun w' hw'=>?_) ?_
  ·have hb':=hw'.world;refine FS.Jn (FS.PB 28 4 w3.heap.size w'.heap.size) ?_ (fun _ _ h=>h.post);go_simp;exact⟨FS.PB.new _ rfl hb'.size,zk.alloc zj _⟩
  rintro _ ⟨y6,rfl⟩
  conv=>arg 10;simp only[Act.put,zq0,zq1,zq2]
  refine FS.Xe rfl rfl 6 rfl rfl rfl rfl (fun _=>Iff.rfl) (fun w' hw'=>?_) ?_
  ·have hb':=hw'.world;have hX:=FS.ZN (hw'.fact 6 (by kernel_rfl));obtain⟨c0,c1,c2,c3,hB⟩:=shp4 hX.1;have m0:=hB.ce 0;have m1:=hB.ce 1;have m2:=hB.ce 2;have m3:=hB.ce 3;have mf:=hB.fz;have ml:=hB.lt;refine FS.Xf ?_ (jes hb' hX.2 hB (.bool y2.t.s) (.slice y2.t.a y2.t.n y2.t.c) (.bool y2.l.s) (.slice y2.l.a y2.l.n y2.l.c));clear hw';go_simp
   try rfl
  conv=>arg 10;simp only[Act.put,zq0,zq1,zq2]
  refine FS.Jo (fun w102 hb hF=>?_);have BX101:=qh (show Bxs w102 y6 28 [.bool y2.t.s,.slice y2.t.a y2.t.n y2.t.c,.bool y2.l.s,.slice y2.l.a y2.l.n y2.l.c] from QQ (hF.all 7));have N103:=qh (show EF w102 w3.heap.size y2 (((1:Int):Rat)/qc) from(FS.JU (val:=(fun x:FV=>Value.tuple #[x.v,.int .i64 0])) (Φ:=fun x w'=>EF w' w3.heap.size x (((1:Int):Rat)/qc)) (FV.injE 0) (hF.all 2)));clear hF;have NCC:=qh (NCC.o.below hb);have B3:=qh (B3.o.bl hb);have KG:=qk KG hb;clear hb;have HSZ:=qh (show w.heap.size<=w3.heap.size from HS3.o);have CT:=qh (show Calls Tryz.prog 20 #[.slice xa xn xc,.agg #[.bool y2.t.s,.slice y2.t.a y2.t.n y2.t.c,.bool y2.l.s,.slice y2.l.a y2.l.n y2.l.c]] w102 _ from jel ⟨xa,xn,xc⟩ P y2 (((1:Int):Rat)/qc) w102 (HX.o.below KG.o) (fun t ht=>(HP.o t ht).up (by have:=HK4.o;omega)) HN.o N103.o.k.any (N103.o.k.len LQD.o (by decide)) LQD.o);rw[HPR.o] at CT;have d0:=BX101.o.ce 0;have d1:=BX101.o.ce 1;have d2:=BX101.o.ce 2;have d3:=BX101.o.ce 3;go_wp2_with fail
  with_reducible refine CT.o.mono ?_
  rintro e w9 ⟨⟨za,zn,zc⟩,he,hz2,hb⟩;obtain rfl:e=.returned (.slice za zn zc):=he;have HS9:=qh KG.o.size;have HZ:=qh (hz2.mono HS9.o);have KG:=qk KG hb;clear hz2 hb CT;go_wp2_with fail
  go_ret;exact⟨⟨za,zn,zc⟩,rfl,HZ.o,KG.o⟩
end Pol
namespace Book
open Go.RowKit Go.Sort Go.FreshG Limb Pol
structure HG (w:World) (lo:Nat) (S:Nat->Prop) (L M:List HL):Prop where
 num:∀ x∈L,(∃ o,Limb.Own 160 w lo x.a x.n x.c o)/\x.n<=900000000
 row:∀ x∈M,(∃ o,J5 w lo x.a x.n x.c o)/\x.n<=100000000
 at_:∀ x:HL,x∈L++M->∀ p:Addr,x.a=some p->S p.block
 nq:∀ x:HL,x∈L++M->x.q<=30000
 al:Z4 L
 am:Z4 M
theorem HG.nil (w:World) (lo:Nat) (S:Nat->Prop):HG w lo S [] []:=⟨fun x h=>(by cases h),fun x h=>(by cases h),fun x h=>(by cases h),fun x h=>(by cases h),List.Pairwise.nil,List.Pairwise.nil⟩
theorem HG.app {w:World} {lo:Nat} {S T U:Nat->Prop} {L M L2 M2:List HL} (h:HG w lo S L M) (g:HG w lo T L2 M2) (hS:∀ b,S b->U b) (hT:∀ b,T b->U b) (hd:∀ b,S b->¬T b):HG w lo U (L++L2) (M++M2) where
 num x hx:=(List.mem_append.1 hx).elim (h.num x) (g.num x)
 row x hx:=(List.mem_append.1 hx).elim (h.row x) (g.row x)
 at_ x hx p hp:=by
  rcases List.mem_append.1 hx with hx | hx <;> rcases List.mem_append.1 hx with hx | hx
  ·exact hS _ (h.at_ x (List.mem_append_left _ hx) p hp)
  ·exact hT _ (g.at_ x (List.mem_append_left _ hx) p hp)
  ·exact hS _ (h.at_ x (List.mem_append_right _ hx) p hp)
  ·exact hT _ (g.at_ x (List.mem_append_right _ hx) p hp)
 nq x hx:=by
  rcases List.mem_append.1 hx with hx | hx <;> rcases List.mem_append.1 hx with hx | hx
  ·exact h.nq x (List.mem_append_left _ hx)
  ·exact g.nq x (List.mem_append_left _ hx)
  ·exact h.nq x (List.mem_append_right _ hx)
  ·exact g.nq x (List.mem_append_right _ hx)
 al:=List.pairwise_append.2 ⟨h.al,g.al,fun x hx y hy p q hp hq e=>hd p.block (h.at_ x (List.mem_append_left _ hx) p hp) (by rw[e];exact g.at_ y (List.mem_append_left _ hy) q hq)⟩
 am:=List.pairwise_append.2 ⟨h.am,g.am,fun x hx y hy p q hp hq e=>hd p.block (h.at_ x (List.mem_append_right _ hx) p hp) (by rw[e];exact g.at_ y (List.mem_append_right _ hy) q hq)⟩
theorem HG.keep {w w':World} {lo:Nat} {S:Nat->Prop} {L M:List HL} (h:HG w lo S L M) (hk:∀ b,S b->w'.heap[b]?=w.heap[b]?):HG w' lo S L M where
 num x hx:=by
  obtain⟨⟨o,ho⟩,hn⟩:=h.num x hx;exact⟨⟨o,ho.keep fun p hp=>hk _ (h.at_ x (List.mem_append_left _ hx) p hp)⟩,hn⟩
 row x hx:=by
  obtain⟨⟨o,ho⟩,hn⟩:=h.row x hx;exact⟨⟨o,ho.keep fun p hp=>hk _ (h.at_ x (List.mem_append_right _ hx) p hp)⟩,hn⟩
 at_:=h.at_
 nq:=h.nq
 al:=h.al
 am:=h.am
theorem HG.mono {w:World} {lo lo':Nat} {S:Nat->Prop} {L M:List HL} (h:HG w lo S L M) (hl:lo'<=lo):HG w lo' S L M where
 num x hx:=by
  obtain⟨⟨o,ho⟩,hn⟩:=h.num x hx;exact⟨⟨o,ho.mono hl⟩,hn⟩
 row x hx:=by
  obtain⟨⟨o,ho⟩,hn⟩:=h.row x hx;exact⟨⟨o,ho.mono hl⟩,hn⟩
 at_:=h.at_
 nq:=h.nq
 al:=h.al
 am:=h.am
theorem BkS.apartG {w:World} {b base q lo:Nat} {S:Nat->Prop} {L M:List HL} (h:BkS w b base q L M) (hG:HG w lo S L M) (h0:0<L.length) (h1:0<M.length) (hk:L.length<=30000) (hkt:M.length<=30000) (hS:∀ b,S b->lo<=b/\b<base) (hlo:lo<=base) :
  Calls Tryz.prog 25 #[.pointer (some ⟨b,0,none⟩)] w fun e w'=>e=.returned (.bool true)/\Below lo w w':=by
 classical
 have hO:∀ x:HL,∃ o,x∈L->Limb.Own 160 w lo x.a x.n x.c o:=fun x=>by
  by_cases hx:x∈L
  ·obtain⟨o,ho⟩:=(hG.num x hx).1;exact⟨o,fun _=>ho⟩
  ·exact⟨fun _=>0,fun h=>absurd h hx⟩
 have hT:∀ x:HL,∃ o,x∈M->J5 w lo x.a x.n x.c o:=fun x=>by
  by_cases hx:x∈M
  ·obtain⟨o,ho⟩:=(hG.row x hx).1;exact⟨o,fun _=>ho⟩
  ·exact⟨fun _=>.bool true,fun h=>absurd h hx⟩
 obtain⟨O,hO⟩:=Classical.axiomOfChoice hO;obtain⟨Ot,hT⟩:=Classical.axiomOfChoice hT
 refine h.apart h0 h1 hk hkt (fun x hx=>hG.nq x (List.mem_append_left _ hx)) (fun x hx=>hG.nq x (List.mem_append_right _ hx)) O Ot hO hT (fun x hx=>(hG.num x hx).2) (fun x hx=>(hG.row x hx).2)
  (fun x hx p hp=>hS _ (hG.at_ x hx p hp)) hlo hG.al hG.am fun x hx y hy p q hp hq e=>?_
 rcases(hO x hx).place with ⟨h,-⟩ | ⟨g,cur,ha,-,hg,-⟩
 ·rw[h] at hp;cases hp
 ·rcases(hT y hy).place with ⟨h,-⟩ | ⟨g2,cur2,ha2,-,hg2,-⟩
  ·rw[h] at hq;cases hq
  ·rw[ha] at hp;rw[ha2] at hq
   cases hp;cases hq
   change g=g2 at e;subst e;rw[hg] at hg2
   injection hg2 with hg2
   injection hg2 with _ hg2
   exact absurd hg2 (by decide)
theorem jbh {w:World} {lo n c:Nat} {a:Option Addr} {o:Nat->Int} (h:Limb.Own 160 w lo a n c o) {p:Addr} (hp:a=some p):lo<=p.block/\p.block<w.heap.size:=(h.blk hp).2
theorem ownT_lt {w:World} {lo n c:Nat} {a:Option Addr} {o:Nat->Value} (h:J5 w lo a n c o) {p:Addr} (hp:a=some p):lo<=p.block/\p.block<w.heap.size:=by
 rcases h.place with h0 | ⟨g,cur,ha,hbg,hg,hcap,hc⟩
 ·rw[h0.1] at hp;cases hp
 ·rw[ha] at hp
  cases hp
  exact⟨hbg,lt_of_block hg⟩
def Bw (lo hi b:Nat):Prop:=lo<=b/\b<hi
structure TOwn (w:World) (lo:Nat) (t:FV):Prop where
 top:∃ o,Limb.Own 160 w lo t.t.a t.t.n t.t.c o
 low:∃ o,Limb.Own 160 w lo t.l.a t.l.n t.l.c o
 ap:Xr t.t.a t.l.a
 n:t.t.n<=900000000/\t.l.n<=900000000
theorem TOwn.hg {w:World} {lo:Nat} {t:FV} (h:TOwn w lo t) {q:Nat} (hq:q+1<=30000):HG w lo (Bw lo w.heap.size) [⟨t.t.a,t.t.n,t.t.c,q⟩,⟨t.l.a,t.l.n,t.l.c,q+1⟩] [] where
 num x hx:=by
  rcases List.mem_cons.1 hx with rfl | hx
  ·exact⟨h.top,h.n.1⟩
  ·rw[List.mem_singleton.1 hx];exact⟨h.low,h.n.2⟩
 row x hx:=by cases hx
 at_ x hx p hp:=by
  rw[List.append_nil] at hx
  rcases List.mem_cons.1 hx with rfl | hx
  ·obtain⟨o,ho⟩:=h.top;exact jbh ho hp
  ·rw[List.mem_singleton.1 hx] at hp;obtain⟨o,ho⟩:=h.low;exact jbh ho hp
 nq x hx:=by
  rw[List.append_nil] at hx
  rcases List.mem_cons.1 hx with rfl | hx
  ·show q<=30000;omega
  ·rw[List.mem_singleton.1 hx];exact hq
 al:=List.pairwise_cons.2 ⟨fun y hy p q hp hq=>by rw[List.mem_singleton.1 hy] at hq;exact h.ap p q hp hq,List.pairwise_singleton _ _⟩
 am:=List.Pairwise.nil
theorem DF.town {w:World} {lo:Nat} {x:FV} {q:Rat} (h:DF w lo x q) (hl:LQ q 900000):TOwn w lo x:=⟨⟨_,h.t.own⟩,⟨_,h.l.own⟩,h.ap,by
 have:=h.k.len hl zj
 exact⟨by have:=this.1;omega,by have:=this.2;omega⟩⟩
theorem TwF.town {w:World} {lo:Nat} {t x:FV} {o1 o2:Nat->Int} (h:TwF w lo t x o1 o2) (h1:x.t.n<=100000000) (h2:x.l.n<=100000000):TOwn w lo t :=
 ⟨⟨_,by rw[h.top.n,h.top.c];exact h.top.own.less (Nat.le_succ _)⟩,⟨_,by rw[h.low.n,h.low.c];exact h.low.own.less (Nat.le_succ _)⟩,h.ap,by rw[h.top.n,h.low.n];omega⟩
theorem XE:∀ {ts:List TV} {q:Nat} {x:HL},x∈Ql ts q->∃ t∈ts,x.q<q+2*ts.length/\((x.a=t.c.t.a/\x.n=t.c.t.n/\x.c=t.c.t.c)\/(x.a=t.c.l.a/\x.n=t.c.l.n/\x.c=t.c.l.c))
 | [],_,_,h=>by cases h
 | t :: r,q,x,h=>by
  rcases List.mem_cons.1 h with rfl | h
  ·exact⟨t,List.mem_cons_self ..,by simp only[List.length_cons];omega,Or.inl ⟨rfl,rfl,rfl⟩⟩
  ·rcases List.mem_cons.1 h with rfl | h
   ·exact⟨t,List.mem_cons_self ..,by simp only[List.length_cons];omega,Or.inr ⟨rfl,rfl,rfl⟩⟩
   ·obtain⟨s,h1,h2,h3⟩:=XE h;exact⟨s,List.mem_cons_of_mem _ h1,by simp only[List.length_cons];omega,h3⟩
theorem blk_t {t:FV} {x:HL} (h:x.a=t.t.a/\x.n=t.t.n/\x.c=t.t.c\/x.a=t.l.a/\x.n=t.l.n/\x.c=t.l.c) {p:Addr} (hp:x.a=some p):FV.blk t p.block:=by
 rcases h with ⟨h,-⟩ | ⟨h,-⟩
 ·exact Or.inl ⟨p,h.symm.trans hp,rfl⟩
 ·exact Or.inr ⟨p,h.symm.trans hp,rfl⟩
theorem Kn:∀ {ts:List TV} {q:Nat},(∀ t∈ts,Xr t.c.t.a t.c.l.a)->(ts.Pairwise fun t s=>FV.apart t.c s.c)->Z4 (Ql ts q)
 | [],_,_,_=>List.Pairwise.nil
 | t :: r,q,h,hp=>by
  obtain⟨h1,h2⟩:=List.pairwise_cons.1 hp;have hr:=Kn (ts:=r) (q:=q+2) (fun s hs=>h s (List.mem_cons_of_mem _ hs)) h2
  have far:∀ y∈Ql r (q+2),∀ p:Addr,y.a=some p->¬FV.blk t.c p.block:=fun y hy p hp hb=>by
   obtain⟨s,hs,-,e⟩:=XE hy;exact h1 s hs _ hb (blk_t e hp)
  refine List.pairwise_cons.2 ⟨fun y hy p p2 e1 e2=>?_,List.pairwise_cons.2 ⟨fun y hy p p2 e1 e2 he=>?_,hr⟩⟩
  ·rcases List.mem_cons.1 hy with rfl | hy
   ·exact h t (List.mem_cons_self ..) p p2 e1 e2
   ·exact fun he=>far y hy p2 e2 (Or.inl ⟨p,e1,he⟩)
  ·exact far y hy p2 e2 (Or.inr ⟨p,e1,he⟩)
theorem jc7 {w:World} {lo:Nat} {ts:List TV} {a:Option Addr} {n c:Nat} {q:Nat} {o:Nat->Value} (h:∀ t∈ts,TOwn w lo t.c) (hp:ts.Pairwise fun t s=>FV.apart t.c s.c) (hr:J5 w lo a n c o) (hn:n<=100000000) (hq:q+2*ts.length<=30000) :
  HG w lo (Bw lo w.heap.size) (Ql ts q) [⟨a,n,c,q+2*ts.length⟩] where
 num x hx:=by
  obtain⟨t,ht,-,⟨e1,e2,e3⟩ | ⟨e1,e2,e3⟩⟩:=XE hx
  ·obtain⟨o,ho⟩:=(h t ht).top;exact⟨⟨o,by rw[e1,e2,e3];exact ho⟩,by rw[e2];exact(h t ht).n.1⟩
  ·obtain⟨o,ho⟩:=(h t ht).low;exact⟨⟨o,by rw[e1,e2,e3];exact ho⟩,by rw[e2];exact(h t ht).n.2⟩
 row x hx:=by rw[List.mem_singleton.1 hx];exact⟨⟨o,hr⟩,hn⟩
 at_ x hx p e:=by
  rcases List.mem_append.1 hx with hx | hx
  ·obtain⟨t,ht,-,⟨e1,e2,e3⟩ | ⟨e1,e2,e3⟩⟩:=XE hx
   ·obtain⟨o,ho⟩:=(h t ht).top;exact jbh ho (e1.symm.trans e)
   ·obtain⟨o,ho⟩:=(h t ht).low;exact jbh ho (e1.symm.trans e)
  ·rw[List.mem_singleton.1 hx] at e;exact ownT_lt hr e
 nq x hx:=by
  rcases List.mem_append.1 hx with hx | hx
  ·obtain⟨t,ht,hl,-⟩:=XE hx;omega
  ·rw[List.mem_singleton.1 hx];exact hq
 al:=Kn (fun t ht=>(h t ht).ap) hp
 am:=List.pairwise_singleton _ _
theorem OT.ownT {w:World} {lo n c m:Nat} {a:Option Addr} {ts:List TV} (h:OT w lo (.slice a m c) ts) (hn:n<=m):∃ o,J5 w lo a n c o:=by
 rcases h.2 with ⟨hv,h0⟩ | ⟨g,cap,cur,hv,hlo,hg,hnc,hcm,hcs,htake⟩
 ·injection hv with e1 e2 e3
  subst e1 e2 e3;exact⟨fun _=>.bool true,⟨by omega,Or.inl ⟨rfl,by omega,rfl⟩⟩⟩
 ·injection hv with e1 e2 e3
  subst e1 e2 e3;refine⟨fun i=>cur.getD i (.bool true),⟨by omega,Or.inr ⟨g,cur,rfl,hlo,hg,by omega,fun i hi=>?_⟩⟩⟩
  have hi2:i<cur.size:=by have:=Nat.mul_le_mul_right 8 (zm hn hnc);omega
  rw[Array.getElem?_eq_getElem hi2,Array.getD_eq_getD_getElem?,Array.getElem?_eq_getElem hi2];rfl
theorem DP.hg {w:World} {lo:Nat} {x:PV} {P:List Tm} (h:DP w lo x P) (hl:∀ t∈P,LQ t.2 900000) (hn:P.length<=10000) {q:Nat} (hq:q+2*P.length<=30000) :
  ∃ ts:List TV,RT w x.a ts/\ts.length=x.n/\x.n=P.length/\HG w lo (Bw lo w.heap.size) (Ql ts q) [⟨x.a,x.n,x.c,q+2*x.n⟩]:=by
 have hxn:=h.k.len;obtain⟨L,h1,h2,h3,h4⟩:=h.ex;obtain⟨xa,xn,xc⟩:=x;change xn=P.length at hxn;obtain⟨a',c',e,hc,hr⟩:=OT.slice h1;change Value.slice xa xn xc=_ at e
 injection e with e1 e2 e3
 subst e1 e3;obtain⟨o,ho⟩:=OT.ownT (n:=xn) h1 zj;refine⟨L.map Prod.fst,hr,e2.symm,hxn,?_⟩
 have hh:=jc7 (q:=q) (fun t ht=>by
  obtain⟨e,he,rfl⟩:=List.mem_map.1 ht
  exact DF.town (h2 e he) (hl (e.1.m,e.2) (by rw[<- h4];exact List.mem_map.2 ⟨e,he,rfl⟩))) (List.pairwise_map.2 h3) ho (by omega) (by rw[<- e2];omega)
 rw[<- e2] at hh;exact hh
theorem TwP.hg {w0 w:World} {lo:Nat} {x:PV} {ts us:List TV} (h:TwP w0 w lo x ts us) (hs:∀ u∈us,u.c.t.n<=100000000/\u.c.l.n<=100000000) (hn:us.length<=10000) {q:Nat} (hq:q+2*us.length<=30000) :
  RT w x.a ts/\ts.length=x.n/\HG w lo (Bw lo w.heap.size) (Ql ts q) [⟨x.a,x.n,x.c,q+2*x.n⟩]:=by
 have hxn:=h.n;have hle:=h.len;obtain⟨xa,xn,xc⟩:=x;change xn=us.length at hxn;obtain⟨a',c',e,hc,hr⟩:=OT.slice h.row;change Value.slice xa (xn+1) xc=_ at e
 injection e with e1 e2 e3
 subst e1 e3;obtain⟨o,ho⟩:=OT.ownT (n:=xn) h.row (Nat.le_succ _);refine⟨⟨fun hne=>?_⟩,by show ts.length=xn;omega,?_⟩
 ·obtain⟨b,off,ha,hcc⟩:=hr.ex (by simp);exact⟨b,off,ha,fun i t hi=>hcc i t (by rw[List.getElem?_append_left (List.getElem?_eq_some_iff.1 hi).1];exact hi)⟩
 ·have hh:=jc7 (q:=q) (fun t ht=>by
   obtain⟨i,hi⟩:=List.mem_iff_getElem?.1 ht;have hil:=(List.getElem?_eq_some_iff.1 hi).1;have hu:us[i]?=some us[i]:=List.getElem?_eq_getElem (by omega);obtain⟨-,o1,o2,-,-,hf⟩:=h.each i t _ hi hu;obtain⟨g1,g2⟩:=hs _ (List.mem_of_getElem? hu)
   exact TwF.town hf g1 g2) h.ap ho (by omega) (by omega)
  rw[show ts.length=xn by omega] at hh;exact hh
abbrev book0:Array Value:=#[.int .i64 0,.slice none 0 0,.slice none 0 0,.slice none 0 0,.slice none 0 0,.slice none 0 0,.slice none 0 0,.slice none 0 0,.slice none 0 0,.slice none 0 0,.slice none 0 0,.slice none 0 0,.slice none 0 0]
theorem BkS.new (w:World):BkS (w.alloc (.cells book0 53)) w.heap.size w.heap.size 0 [] []:=by
 refine⟨⟨.slice none 0 0,.slice none 0 0,⟨?_,World.ownsRow_nil _ _ _ _,World.ownsRow_nil _ _ _ _,(fun h=>by cases h),(fun h=>by cases h),fun g h=>by cases h⟩,fun _=>rfl,fun _=>rfl⟩,zj,by rw[World.size_alloc];exact Nat.le_succ _⟩
 refine World.rowIs_alloc w _ 53 _ fun i hi=>?_
 have:i=0\/i=1\/i=2\/i=3\/i=4\/i=5\/i=6\/i=7\/i=8\/i=9\/i=10\/i=11\/i=12:=by
  have:i<13:=hi;omega
 rcases this with rfl | rfl | rfl | rfl | rfl | rfl | rfl | rfl | rfl | rfl | rfl | rfl | rfl <;> rfl
theorem RT.QE {base:Nat} {w w':World} {a:Option Addr} {ts:List TV} (h:RT w a ts) (hk:Qy base w w') (hf:∀ p,a=some p->p.block<base):RT w' a ts:=by
 refine⟨fun hn=>?_⟩;obtain⟨b,off,ha,hc⟩:=h.ex hn;exact⟨b,off,ha,fun i t hi j v hj=>(World.cell?_of_block (a:=⟨b,off+i*8+j,none⟩) (hk.bel.block b (hf _ ha))).trans (hc i t hi j v hj)⟩
theorem HG.QE {base:Nat} {w w':World} {lo:Nat} {S:Nat->Prop} {L M:List HL} (h:HG w lo S L M) (hk:Qy base w w') (hS:∀ b,S b->b<base):HG w' lo S L M:=h.keep fun b hb=>hk.bel.block b (hS b hb)
structure PG (w:World) (x:PV) (q:Nat) (ts:List TV) (lo hi:Nat) (S:Nat->Prop):Prop where
 rt:RT w x.a ts
 len:ts.length=x.n
 hg:HG w lo S (Ql ts q) [⟨x.a,x.n,x.c,q+2*x.n⟩]
 at_:∀ b,S b->b<hi
theorem PG.far {w:World} {x:PV} {q:Nat} {ts:List TV} {lo hi:Nat} {S:Nat->Prop} (h:PG w x q ts lo hi S):∀ p,x.a=some p->p.block<hi:=fun p hp=>h.at_ _ (h.hg.at_ ⟨x.a,x.n,x.c,q+2*x.n⟩ (by simp) p hp)
theorem PG.QE {base:Nat} {w w':World} {x:PV} {q:Nat} {ts:List TV} {lo hi:Nat} {S:Nat->Prop} (h:PG w x q ts lo hi S) (hk:Qy base w w') (hh:hi<=base):PG w' x q ts lo hi S :=
 ⟨RT.QE h.rt hk fun p hp=>Nat.lt_of_lt_of_le (h.far p hp) hh,h.len,h.hg.QE hk fun b hb=>Nat.lt_of_lt_of_le (h.at_ b hb) hh,h.at_⟩
theorem PG.below {w w':World} {x:PV} {q:Nat} {ts:List TV} {lo hi:Nat} {S:Nat->Prop} (h:PG w x q ts lo hi S) (hb:Below w.heap.size w w') (hh:hi<=w.heap.size):PG w' x q ts lo hi S :=
 ⟨h.rt.below hb,h.len,h.hg.keep fun b hS=>hb.block b (Nat.lt_of_lt_of_le (h.at_ b hS) hh),h.at_⟩
structure BG (w:World) (b base q lo hi l m:Nat):Prop where
 ex:∃ L M,L.length=l/\M.length=m/\BkS w b base q L M/\HG w lo (Bw lo hi) L M
 lq:l+m=q
 h1:lo<=hi
 h2:hi<=base
def BGs (b base q lo hi l m:Nat) (w:World) (e:Ending) (w':World):Prop:=(∃ r,e=.returned r)/\BG w' b base q lo hi l m/\Qy base w w'
theorem BG.new (w:World) {lo:Nat} (h:lo<=w.heap.size):BG (w.alloc (.cells book0 53)) w.heap.size w.heap.size 0 lo lo 0 0 :=
 ⟨⟨[],[],rfl,rfl,BkS.new w,HG.nil _ _ _⟩,rfl,zj,h⟩
theorem BG.step {w w':World} {b base q q' lo hi lo' hi':Nat} {L M L2 M2:List HL} {e:Ending} (hG:HG w lo (Bw lo hi) L M) (g:HG w lo' (Bw lo' hi') L2 M2) (lq:L.length+M.length=q) (h1:lo<=hi) (h2:hi<=lo') (h3:lo'<=hi') (h4:hi'<=base) (hq:L2.length+M2.length+q=q') (h:Vg b base q' (L++L2) (M++M2) w e w') :
  BGs b base q' lo hi' (L.length+L2.length) (M.length+M2.length) w e w' :=
 ⟨h.1,⟨⟨L++L2,M++M2,List.length_append,List.length_append,h.2.1,(hG.app (g.mono (zm h1 h2)) (fun b hb=>⟨hb.1,by have:=hb.2;omega⟩) (fun b hb=>⟨by have:=hb.1;omega,hb.2⟩) (fun b hb hc=>by have:=hb.2;have:=hc.1;omega)).QE h.2.2 fun b hb=>Nat.lt_of_lt_of_le hb.2 h4⟩,by omega,by omega,h4⟩,h.2.2⟩
theorem BG.poly {w:World} {b base q lo hi l m:Nat} (h:BG w b base q lo hi l m) {x:PV} {ts:List TV} {lo' hi':Nat} (g:PG w x q ts lo' hi' (Bw lo' hi')) (h2:hi<=lo') (h3:lo'<=hi') (h4:hi'<=base) (hq:q+2*x.n<=29990) :
  Calls Tryz.prog 23 #[.pointer (some ⟨b,0,none⟩),x.v] w (BGs b base (q+2*x.n+1) lo hi' (l+2*x.n) (m+1) w):=by
 obtain⟨L,M,rfl,rfl,hs,hg⟩:=h.ex;have hl:=h.lq
 refine(hs.poly x ts g.rt g.len (fun p hp=>Nat.lt_of_lt_of_le (g.far p hp) h4) (by omega) (by omega) (by omega)).mono fun e w' hk=>?_
 have h5:=BG.step hg g.hg hl h.h1 h2 h3 h4 (q':=q+2*x.n+1) (by rw[Zi,g.len];simp;omega) hk;rw[Zi,g.len] at h5;exact h5
structure FG (w:World) (x:FV) (q lo hi:Nat):Prop where
 hg:HG w lo (Bw lo hi) [⟨x.t.a,x.t.n,x.t.c,q⟩,⟨x.l.a,x.l.n,x.l.c,q+1⟩] []
theorem FG.QE {base:Nat} {w w':World} {x:FV} {q lo hi:Nat} (h:FG w x q lo hi) (hk:Qy base w w') (hh:hi<=base):FG w' x q lo hi:=⟨h.hg.QE hk fun b hb=>Nat.lt_of_lt_of_le hb.2 hh⟩
theorem FG.below {w w':World} {x:FV} {q lo hi:Nat} (h:FG w x q lo hi) (hb:Below w.heap.size w w') (hh:hi<=w.heap.size):FG w' x q lo hi:=⟨h.hg.keep fun b hS=>hb.block b (Nat.lt_of_lt_of_le hS.2 hh)⟩
theorem TOwn.fg {w:World} {lo:Nat} {t:FV} (h:TOwn w lo t) {q:Nat} (hq:q+1<=30000):FG w t q lo w.heap.size:=⟨h.hg hq⟩
theorem fracL_eq (L:List HL) (q:Nat) (x:FV):fracL L q x.t.a x.t.n x.t.c x.l.a x.l.n x.l.c=L++[⟨x.t.a,x.t.n,x.t.c,q⟩,⟨x.l.a,x.l.n,x.l.c,q+1⟩]:=by
 unfold fracL;rw[List.append_assoc];rfl
theorem BG.frac {w:World} {b base q lo hi l m:Nat} (h:BG w b base q lo hi l m) {x:FV} {lo' hi':Nat} (g:FG w x q lo' hi') (h2:hi<=lo') (h3:lo'<=hi') (h4:hi'<=base) (hq:q+2<=29990) :
  Calls Tryz.prog 24 #[.pointer (some ⟨b,0,none⟩),x.v] w (BGs b base (q+2) lo hi' (l+2) m w):=by
 obtain⟨L,M,rfl,rfl,hs,hg⟩:=h.ex;have hl:=h.lq
 refine(hs.frac (by omega) (by omega) x.t.s x.t.a x.t.n x.t.c x.l.s x.l.a x.l.n x.l.c).mono fun e w' hk=>?_
 rw[fracL_eq] at hk;exact BG.step (M2:=[]) hg g.hg hl h.h1 h2 h3 h4 (q':=q+2) (by simp;omega) (by rw[List.append_nil];exact hk)
theorem BG.apart {w:World} {b base q lo hi l m:Nat} (h:BG w b base q lo hi l m) (h0:0<l) (h1:0<m) (hq:q<=30000) :
  Calls Tryz.prog 25 #[.pointer (some ⟨b,0,none⟩)] w fun e w'=>e=.returned (.bool true)/\Below lo w w':=by
 obtain⟨L,M,rfl,rfl,hs,hg⟩:=h.ex;have hl:=h.lq;exact hs.apartG hg h0 h1 (by omega) (by omega) (fun b hb=>⟨hb.1,Nat.lt_of_lt_of_le hb.2 h.h2⟩) (zm h.h1 h.h2)
theorem DP.pg {w:World} {lo:Nat} {x:PV} {P:List Tm} (h:DP w lo x P) (hl:∀ t∈P,LQ t.2 900000) (hn:P.length<=10000) {q:Nat} (hq:q+2*P.length<=30000):∃ ts,PG w x q ts lo w.heap.size (Bw lo w.heap.size):=by
 obtain⟨ts,h1,h2,h3,h4⟩:=DP.hg h hl hn hq;exact⟨ts,h1,h2,h4,fun b hb=>hb.2⟩
theorem Tw2.pg {w0 w:World} {lo:Nat} {y x:PV} (h:Tw2 w0 w lo y x) (hn:x.n<=10000) {q:Nat} (hq:q+2*x.n<=30000):∃ ts,PG w y q ts lo w.heap.size (Bw lo w.heap.size):=by
 obtain⟨ts,us,h1,h2,h3,h4⟩:=h;obtain⟨g1,g2,g3⟩:=TwP.hg h1 h4 (by omega) (q:=q) (by omega);exact⟨ts,g1,g2,g3,fun b hb=>hb.2⟩
structure GP (w:World) (x:PV) (q lo hi:Nat):Prop where
 ex:∃ ts,PG w x q ts lo hi (Bw lo hi)
 le:hi<=w.heap.size
 lh:lo<=hi
theorem GP.below {w w':World} {x:PV} {q lo hi:Nat} (h:GP w x q lo hi) (hb:Below w.heap.size w w'):GP w' x q lo hi:=by
 obtain⟨ts,g⟩:=h.ex;exact⟨⟨ts,g.below hb h.le⟩,zm h.le hb.size,h.lh⟩
theorem GP.QE {base:Nat} {w w':World} {x:PV} {q lo hi:Nat} (h:GP w x q lo hi) (hk:Qy base w w') (hh:hi<=base):GP w' x q lo hi:=by
 obtain⟨ts,g⟩:=h.ex;exact⟨⟨ts,g.QE hk hh⟩,zm h.le hk.bel.size,h.lh⟩
structure GF (w:World) (x:FV) (q lo hi:Nat):Prop where
 ex:FG w x q lo hi
 le:hi<=w.heap.size
 lh:lo<=hi
theorem GF.below {w w':World} {x:FV} {q lo hi:Nat} (h:GF w x q lo hi) (hb:Below w.heap.size w w'):GF w' x q lo hi:=⟨h.ex.below hb h.le,zm h.le hb.size,h.lh⟩
theorem GF.QE {base:Nat} {w w':World} {x:FV} {q lo hi:Nat} (h:GF w x q lo hi) (hk:Qy base w w') (hh:hi<=base):GF w' x q lo hi:=⟨h.ex.QE hk hh,zm h.le hk.bel.size,h.lh⟩
theorem DP.gp {w:World} {lo:Nat} {x:PV} {P:List Tm} (h:DP w lo x P) (hl:∀ t∈P,LQ t.2 900000) (hn:P.length<=10000) (hw:lo<=w.heap.size) {q:Nat} (hq:q+2*P.length<=30000):GP w x q lo w.heap.size:=⟨DP.pg h hl hn hq,zj,hw⟩
theorem Tw2.gp {w0 w:World} {lo:Nat} {y x:PV} (h:Tw2 w0 w lo y x) (hn:x.n<=10000) (hw:lo<=w.heap.size) {q:Nat} (hq:q+2*x.n<=30000):GP w y q lo w.heap.size:=⟨Tw2.pg h hn hq,zj,hw⟩
theorem TOwn.gf {w:World} {lo:Nat} {t:FV} (h:TOwn w lo t) (hw:lo<=w.heap.size) {q:Nat} (hq:q+1<=30000):GF w t q lo w.heap.size:=⟨h.fg hq,zj,hw⟩
theorem BG.polyP {w:World} {b base q lo hi l m:Nat} (h:BG w b base q lo hi l m) {x:PV} {lo' hi':Nat} (g:GP w x q lo' hi') (h2:hi<=lo') (h4:hi'<=base) (hq:q+2*x.n<=29990) :
  Calls Tryz.prog 23 #[.pointer (some ⟨b,0,none⟩),x.v] w (BGs b base (q+2*x.n+1) lo hi' (l+2*x.n) (m+1) w):=by
 obtain⟨ts,g1⟩:=g.ex;exact h.poly g1 h2 g.lh h4 hq
theorem BG.fracP {w:World} {b base q lo hi l m:Nat} (h:BG w b base q lo hi l m) {x:FV} {lo' hi':Nat} (g:GF w x q lo' hi') (h2:hi<=lo') (h4:hi'<=base) (hq:q+2<=29990) :
  Calls Tryz.prog 24 #[.pointer (some ⟨b,0,none⟩),x.v] w (BGs b base (q+2) lo hi' (l+2) m w):=h.frac g.ex h2 g.lh h4 hq
theorem BG.apartA {w:World} {b base q lo hi l m:Nat} (h:BG w b base q lo hi l m) (h1:0<m) (hq:q<=30000) :
  Calls Tryz.prog 25 #[.pointer (some ⟨b,0,none⟩)] w fun e w'=>e=.returned (.bool true)/\Below lo w w':=by
 by_cases h0:0<l
 ·exact h.apart h0 h1 hq
 ·classical
  obtain⟨L,M,rfl,rfl,hs,hg⟩:=h.ex;have hl:=h.lq;obtain rfl:L=[]:=List.length_eq_zero_iff.1 (by omega)
  have hT:∀ x:HL,∃ o,x∈M->J5 w lo x.a x.n x.c o:=fun x=>by
   by_cases hx:x∈M
   ·obtain⟨o,ho⟩:=(hg.row x hx).1;exact⟨o,fun _=>ho⟩
   ·exact⟨fun _=>.bool true,fun h=>absurd h hx⟩
  obtain⟨Ot,hT⟩:=Classical.axiomOfChoice hT
  exact hs.apart0 h1 (by omega) (fun x hx=>hg.nq x (List.mem_append_right _ hx)) Ot hT (fun x hx=>(hg.row x hx).2) (fun x hx p hp=>by
   have h9:=hg.at_ x (List.mem_append_right _ hx) p hp
   exact⟨h9.1,Nat.lt_of_lt_of_le h9.2 h.h2⟩) (zm h.h1 h.h2) hg.am
end Book
namespace Pol
open Go.RowKit Go.Sort Limb
theorem SA.lq {w:World} {x:PV} {P:List Tm} {ok:Bool} {n k e m:Nat} (h:SA w x P ok n k e) (hm:k<=m):∀ t∈P,LQ t.2 m:=fun t ht=>(h.b.lq zj t ht).up hm
theorem twin_sa {w:World} {x:PV} {P:List Tm} {ok:Bool} {n k e:Nat} (h:SA w x P ok n k e) (hk:k<=900000) :
  Calls Tryz.prog 12 #[x.v] w fun en w'=>∃ y:PV,en=.returned y.v/\y.n=x.n/\SA w' y P ok n k e/\Tw2 w w' w.heap.size y x/\Below w.heap.size w w':=by
 have hl:=h.le;have hb:=h.b;have hq:=h.lq hk
 rcases h.h with ⟨e1,hx⟩ | ⟨e1,hx,e2⟩
 ·exact(twin_k x P w hx hq hl).mono fun en w' ⟨y,g1,g2,g3,g4,g5⟩=>⟨y,g1,g2,⟨Or.inl ⟨e1,g3⟩,hb,by omega⟩,g4,g5⟩
 ·exact(twin_b x w hx hl).mono fun en w' ⟨y,g1,g2,g3,g4,g5⟩=>⟨y,g1,g2,⟨Or.inr ⟨e1,g3,e2⟩,hb,by omega⟩,g4,g5⟩
theorem SA.small {w:World} {x:PV} {P:List Tm} {ok:Bool} {n k e:Nat} (h:SA w x P ok n k e):P.length*k+1<=n*k+1:=Nat.succ_le_succ (Nat.mul_le_mul_right _ h.b.b.len)
theorem ja2 {P:List Tm} {n k e:Nat} (h:PC P n k e) (hk:k<=10) (hn:n<=30):LQ (JW P) 400/\PC (Xj P) n 410 e:=by
 have h1:LQ (JW P) (n*k+k+1):=contP_lq h.c h.b.len h.b.lq;have h2:n*k<=300:=Nat.mul_le_mul hn hk;have h3:=h1.up (m:=400) (by omega);exact⟨h3,(⟨Q4 _ _,PB.prim h.c h.b h3⟩:PC (Xj P) n (k+400) e).up zj (by omega) zj⟩
theorem jem {w:World} {x:PV} {P:List Tm} {ok:Bool} {n k e:Nat} (hx:SA w x P ok n k e) (hk:k<=10) (hn:n<=30):Calls Tryz.prog 32 #[x.v] w (RF w (JW P)):=by
 have h2:n*k<=300:=Nat.mul_le_mul hn hk;have h3:=hx.small;exact YH hx.ap hx.le (hx.lq zj) (by omega) (by omega)
theorem jbv {w:World} {x:PV} {P:List Tm} {ok:Bool} {n k e:Nat} (hx:SA w x P ok n k e) (hk:k<=10) (hn:n<=30):Calls Tryz.prog 34 #[x.v] w (RKV w (JW P)):=by
 have h2:n*k<=300:=Nat.mul_le_mul hn hk;have h3:=hx.small;exact Km hx.ap hx.le (hx.lq zj) (by omega) (by omega)
theorem jf0 {w:World} {x:PV} {P:List Tm} {ok:Bool} {n k e:Nat} (hx:SA w x P ok n k e) (he:e<=65535) (hk:k<=10) (hn:n<=30) :
  Calls Tryz.prog 33 #[x.v] w fun e w'=>∃ y:PV,e=.returned y.v/\DP w' w.heap.size y (Xj P)/\Below w.heap.size w w':=by
 have h2:n*k<=300:=Nat.mul_le_mul hn hk;have h4:n*(k+400+1)<=30*411:=Nat.mul_le_mul hn (by omega);exact prim_any x P k n 400 w hx.ap (hx.b.b.up zj zj he) hx.le (by omega) (by omega) (ja2 hx.b hk hn).1 (by decide) (by omega)
theorem rprim_sa {w:World} {x:PV} {P:List Tm} {ok:Bool} {n k e:Nat} (hx:SA w x P ok n k e) (hk:k<=10) (hn:n<=30) :
  Calls Tryz.prog 35 #[x.v] w fun e w'=>∃ y:PV,e=.returned y.v/\EP w' w.heap.size y (Xj P)/\Below w.heap.size w w':=by
 have h2:n*k<=300:=Nat.mul_le_mul hn hk;have h3:=hx.small;exact jhs x P k 400 w hx.ap hx.b.c (hx.lq zj) hx.le (by omega) (by omega) (ja2 hx.b hk hn).1 (by decide)
end Pol
end Go.Proofs.YtgkkbkoiaccmfaaGreatDoor
