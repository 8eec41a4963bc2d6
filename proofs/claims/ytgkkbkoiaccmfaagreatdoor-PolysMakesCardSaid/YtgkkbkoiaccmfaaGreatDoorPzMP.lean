/-
  The law PolysMakes: whatever it is handed, it returns true, and what it was handed reads behind the call as it read before; the card ties the listed tables to the program's text.
-/
import Derived.Test.YtgkkbkoiaccmfaaGreatDoorPzMO
import Derived.Test.YtgkkbkoiaccmfaaGreatDoorCards
import Derived.Test.YtgkkbkoiaccmfaaGreatDoorTie
import Derived.WalkKit
import Derived.ProofKit
import Derived.OpenShut
import Derived.Deep.DeepHandedRow
import Derived.Lib.LaidTab
set_option linter.unusedSimpArgs false
set_option linter.unusedVariables false
set_option maxHeartbeats 16000000
set_option maxRecDepth 100000
namespace Go.Proofs.YtgkkbkoiaccmfaaGreatDoor.Pol
open Go.RowKit Go.Sort Go.Proofs.YtgkkbkoiaccmfaaGreatDoor.Limb
theorem TwN.at_ {w:World} {lo:Nat} {t x:NV} {o:Nat→Int} (h:TwN w lo t x o):∃ g,t=⟨x.s,some ⟨g,0,none⟩,x.n,x.n+1⟩∧Rd w (some ⟨g,0,none⟩) (x.n+1) (tw o x.n):=by
 obtain⟨ts,ta,tn,tc⟩:=t;obtain⟨h1,h2,h3,h4⟩:=h;change ts=x.s at h1;change tn=x.n at h2;change tc=x.n+1 at h3;subst h1 h2 h3;obtain⟨g,rfl⟩:=h4.some_of_pos (by omega);exact⟨g,rfl,h4.rd⟩
theorem leftF_any (t x:FV) (lo:Nat) (o1 o2:Nat→Int) (w:World) (h:TwF w lo t x o1 o2) (h1:Rd w x.t.a x.t.n o1) (hn1:x.t.n≤100000000) (h2:Rd w x.l.a x.l.n o2) (hn2:x.l.n≤100000000) :
  Calls Tryz.prog 22 #[t.v,x.v] w fun e w'=>e=.returned (.bool true)∧Below w.heap.size w w':=by
 obtain⟨g1,e1,r1⟩:=h.top.at_;obtain⟨g2,e2,r2⟩:=h.low.at_;obtain⟨tt,tl⟩:=t;change tt=_ at e1;change tl=_ at e2;subst e1 e2;exact leftFrac_any x.t.s g1 x.t.a x.t.n x.t.c o1 x.l.s g2 x.l.a x.l.n x.l.c o2 w r1 h1 (by omega) r2 h2 (by omega)
theorem leftTerm_any (t u:TV) (lo:Nat) (o1 o2:Nat→Int) (w:World) (h:TwF w lo t.c u.c o1 o2) (h1:Rd w u.c.t.a u.c.t.n o1) (hn1:u.c.t.n≤100000000) (h2:Rd w u.c.l.a u.c.l.n o2) (hn2:u.c.l.n≤100000000) (hm:t.m=u.m):Calls Tryz.prog 82 #[TV.v t,TV.v u] w fun e w'=>e=.returned (.bool true)∧Below w.heap.size w w':=by
 obtain⟨V,hV⟩:∃ V,V=(w.alloc (.cells #[.bool t.c.t.s,.slice t.c.t.a t.c.t.n t.c.t.c,.bool t.c.l.s,.slice t.c.l.a t.c.l.n t.c.l.c,.int .u16 t.m.x,.int .u16 t.m.y,.int .u16 t.m.z,.int .u16 t.m.t] 71)).alloc (.cells #[.bool u.c.t.s,.slice u.c.t.a u.c.t.n u.c.t.c,.bool u.c.l.s,.slice u.c.l.a u.c.l.n u.c.l.c,.int .u16 u.m.x,.int .u16 u.m.y,.int .u16 u.m.z,.int .u16 u.m.t] 71):=⟨_,rfl⟩
 have hbV:Below w.heap.size w V:=by rw[hV];exact((Below.refl _ _).alloc (Nat.le_refl _) _).alloc (by go_size) _
 have B1:=qh (show Bxs V w.heap.size 71 [.bool t.c.t.s,.slice t.c.t.a t.c.t.n t.c.t.c,.bool t.c.l.s,.slice t.c.l.a t.c.l.n t.c.l.c,.int .u16 t.m.x,.int .u16 t.m.y,.int .u16 t.m.z,.int .u16 t.m.t] by rw[hV];exact(Bxs.new w 71 [.bool t.c.t.s,.slice t.c.t.a t.c.t.n t.c.t.c,.bool t.c.l.s,.slice t.c.l.a t.c.l.n t.c.l.c,.int .u16 t.m.x,.int .u16 t.m.y,.int .u16 t.m.z,.int .u16 t.m.t]).alloc _)
 have B2:=qh (show Bxs V (w.heap.size+1) 71 [.bool u.c.t.s,.slice u.c.t.a u.c.t.n u.c.t.c,.bool u.c.l.s,.slice u.c.l.a u.c.l.n u.c.l.c,.int .u16 u.m.x,.int .u16 u.m.y,.int .u16 u.m.z,.int .u16 u.m.t] by
  have h:=Bxs.new (w.alloc (.cells #[.bool t.c.t.s,.slice t.c.t.a t.c.t.n t.c.t.c,.bool t.c.l.s,.slice t.c.l.a t.c.l.n t.c.l.c,.int .u16 t.m.x,.int .u16 t.m.y,.int .u16 t.m.z,.int .u16 t.m.t] 71)) 71 [.bool u.c.t.s,.slice u.c.t.a u.c.t.n u.c.t.c,.bool u.c.l.s,.slice u.c.l.a u.c.l.n u.c.l.c,.int .u16 u.m.x,.int .u16 u.m.y,.int .u16 u.m.z,.int .u16 u.m.t];rw[World.size_alloc] at h
  rw[hV];exact h)
 have KG:=qh hbV;have SF:=qh (leftF_any t.c u.c lo o1 o2 V (h.below hbV) (h1.below hbV) hn1 (h2.below hbV) hn2);have HV:=qh hV;obtain⟨tc,⟨mx,my,mz,mt⟩⟩:=t;obtain⟨uc,um⟩:=u;change (⟨mx,my,mz,mt⟩:Mo)=um at hm;subst hm;change Calls Tryz.prog 82 #[.agg #[.bool tc.t.s,.slice tc.t.a tc.t.n tc.t.c,.bool tc.l.s,.slice tc.l.a tc.l.n tc.l.c,.int .u16 mx,.int .u16 my,.int .u16 mz,.int .u16 mt],.agg #[.bool uc.t.s,.slice uc.t.a uc.t.n uc.t.c,.bool uc.l.s,.slice uc.l.a uc.l.n uc.l.c,.int .u16 mx,.int .u16 my,.int .u16 mz,.int .u16 mt]] w _;clear hV hbV h h1 h2;go_enter Tryz.func82,Tryz.ntmps82
 go_upto_region 1 with (fail)
 rw[show(w.alloc (.cells #[.bool tc.t.s,.slice tc.t.a tc.t.n tc.t.c,.bool tc.l.s,.slice tc.l.a tc.l.n tc.l.c,.int .u16 mx,.int .u16 my,.int .u16 mz,.int .u16 mt] 71)).alloc (.cells #[.bool uc.t.s,.slice uc.t.a uc.t.n uc.t.c,.bool uc.l.s,.slice uc.l.a uc.l.n uc.l.c,.int .u16 mx,.int .u16 my,.int .u16 mz,.int .u16 mt] 71)=V from HV.out.symm];have c10:=B1.out.cell (i:=0) rfl;have c11:=B1.out.cell (i:=1) rfl;have c12:=B1.out.cell (i:=2) rfl;have c13:=B1.out.cell (i:=3) rfl;have c14:=B1.out.cell (i:=4) rfl;have c15:=B1.out.cell (i:=5) rfl;have c16:=B1.out.cell (i:=6) rfl;have c17:=B1.out.cell (i:=7) rfl;have c20:=B2.out.cell (i:=0) rfl;have c21:=B2.out.cell (i:=1) rfl;have c22:=B2.out.cell (i:=2) rfl;have c23:=B2.out.cell (i:=3) rfl;have c24:=B2.out.cell (i:=4) rfl;have c25:=B2.out.cell (i:=5) rfl;have c26:=B2.out.cell (i:=6) rfl;have c27:=B2.out.cell (i:=7) rfl;go_wp2_with fail
 with_reducible refine SF.out.mono ?_
 rintro e w1 ⟨rfl,hb⟩;have KG:=qk KG hb;have B1:=qh (B1.out.below hb B1.out.lt);have B2:=qh (B2.out.below hb B2.out.lt);clear hb SF c10 c11 c12 c13 c14 c15 c16 c17 c20 c21 c22 c23 c24 c25 c26 c27;have c10:=B1.out.cell (i:=0) rfl;have c11:=B1.out.cell (i:=1) rfl;have c12:=B1.out.cell (i:=2) rfl;have c13:=B1.out.cell (i:=3) rfl;have c14:=B1.out.cell (i:=4) rfl;have c15:=B1.out.cell (i:=5) rfl;have c16:=B1.out.cell (i:=6) rfl;have c17:=B1.out.cell (i:=7) rfl;have c20:=B2.out.cell (i:=0) rfl;have c21:=B2.out.cell (i:=1) rfl;have c22:=B2.out.cell (i:=2) rfl;have c23:=B2.out.cell (i:=3) rfl;have c24:=B2.out.cell (i:=4) rfl;have c25:=B2.out.cell (i:=5) rfl;have c26:=B2.out.cell (i:=6) rfl;have c27:=B2.out.cell (i:=7) rfl;go_wp2_with fail
 go_ret;exact⟨rfl,KG.out⟩
theorem leftPoly_any (x y:PV) (ts us:List TV) (lo:Nat) (w0 w:World) (hx:TwP w0 w lo x ts us) (hw:Below w0.heap.size w0 w) (hy:RT w0 y.a us) (hyn:us.length=y.n) (hn:y.n≤1000000) (hrd:∀ u∈us,u.c.t.n≤100000000∧u.c.l.n≤100000000) :
  Calls Tryz.prog 21 #[x.v,y.v] w fun e w'=>e=.returned (.bool true)∧Below w.heap.size w w':=by
 have hxl:x.n=y.n:=hx.n.trans hyn;obtain⟨xa,xn,xc⟩:=x;obtain⟨ya,n,yc⟩:=y;change xn=n at hxl;subst hxl;obtain⟨a',c',e',hcc,hrx⟩:=OT.slice hx.row
 have hll:(ts++[spareT]).length=xn+1:=by
  rw[List.length_append,hx.len,show us.length=xn from hyn];rfl
 rw[hll] at e' hcc;change Value.slice xa (xn+1) xc=.slice a' (xn+1) c' at e'
 obtain⟨rfl,rfl⟩:xa=a'∧xc=c':=by injection e' with e1 e2 e3;exact⟨e1,e3⟩
 clear e';have HNN:=qh (show xn≤1000000 from hn);have NU:=qh (show us.length=xn from hyn);have NT:=qh (show ts.length=xn from hx.len.trans hyn);have EA:=qh hx.each;have HRD:=qh hrd;have HW:=qh hw;have RX:=qh (hrx.one (by simp));have RY:=qh (RT.below (show RT w0 ya us from hy) hw)
 have g1:¬xc≤xn:=by omega
 have g2:¬(xc:Int)≤(xn:Int):=by omega
 have g3:xn+1≤xc:=hcc
 have g4:(xn:Int)+1≤(xc:Int):=by omega
 have g5:IntKind.i64.wrap ((xn:Int)+1)=(xn:Int)+1:=IntWalk.i64_in _ (by have:=HNN.out;omega);have G:=qh (And.intro g1 (And.intro g2 (And.intro g3 (And.intro g4 g5))));change Calls Tryz.prog 21 #[.slice xa xn xc,.slice ya xn yc] w _;clear hx hw hy hyn hn hrd hrx hcc hll g3 g4 g5;obtain⟨pb,po,rfl,hp⟩:=RX.out;have HP:=qh hp;clear hp RX;go_enter Tryz.func21,Tryz.ntmps21;go_wp2_with fail
 clear g1 g2;go_loopw [5] (fun i wr=>∃ j:Nat,j≤xn∧i=.int .i64 j∧Below w.heap.size w wr) (fun i _=>xn-(intOf i).toNat)
 case atStart =>
  exact⟨0,Nat.zero_le _,rfl,Below.refl _ _⟩
 case round =>
  obtain⟨j,hj,rfl,hb0⟩:=hrel;have HJ:=qh hj;have KG:=qh hb0;clear hj hb0
  by_cases hjn:j<xn
  ·have HJN:=qh hjn;obtain⟨t,ht⟩:∃ t,ts[j]?=some t:=⟨_,List.getElem?_eq_getElem (by rw[NT.out];exact hjn)⟩;obtain⟨u,hu⟩:∃ u,us[j]?=some u:=⟨_,List.getElem?_eq_getElem (by rw[NU.out];exact hjn)⟩;obtain⟨qb,qo,rfl,hc2⟩:=(RY.out.below KG.out).one (fun h=>by rw[h] at hu;simp at hu);have E1:=qh ((HP.out j t (by rw[List.getElem?_append_left (by rw[NT.out];exact hjn)];exact ht)).below KG.out);have E2:=qh (hc2 j u hu);obtain⟨hm,o1,o2,r1,r2,hf⟩:=EA.out j t u ht hu;obtain⟨s1,s2⟩:=HRD.out u (List.mem_of_getElem? hu);have HM:=qh hm;have HF:=qh (hf.below KG.out);have HR1:=qh ((r1.below HW.out).below KG.out);have HR2:=qh ((r2.below HW.out).below KG.out);have HS1:=qh s1;have HS2:=qh s2;have ek:IntKind.i64.wrap ((j:Int)+1)=(j:Int)+1:=IntWalk.i64_in _ (by have:=HJN.out;have:=HNN.out;omega);clear hc2 ht hu hm r1 r2 hf s1 s2
   go_upto_region 6 with (fail)
   refine FS.wp_region_fresh 9 [] (FS.spOf [(8,FS.Sp.know (.bool true))])
    (fun w'=>Below wr.heap.size wr w') (by kernel_rfl) (by kernel_rfl) (by kernel_rfl)
    (FS.spOf_cons (FS.Sp.know_keeps _ _) (FS.spOf_nil)) (fun _ _ h hb=>h.trans (hb.mono h.size)) ((Below.refl _ _).drew) ?_
   simp only[List.append_eq,List.cons_append,List.nil_append,List.take_succ_cons,List.take_zero,List.drop_succ_cons,List.drop_zero]
   iterate 8
    refine FS.wpF_reads rfl rfl rfl ?_ (fun w' hw'=>?_) ?_;rotate_left
    ·have hb':=hw'.world;obtain⟨hs0,hs1,hs2,hs3,hs4,hs5,hs6,hs7⟩:=(E1.out.below hb').eight;obtain⟨hs0,hs1,hs2,hs3,hs4,hs5,hs6,hs7⟩:=(E2.out.below hb').eight;clear hw';go_simp
     try rfl
    conv=>arg 10;simp only[Act.put,zq0,zq1,zq2]
   refine FS.wpF_spec rfl rfl rfl (fun w' hw'=>?_) ?_
   ·have hb':=hw'.world;refine FS.gives_of (FS.PK (.bool true)) ?_ (fun _ _ h=>h.post);go_simp;have CT:=leftTerm_any t u lo o1 o2 w' (HF.out.below hb') (HR1.out.below hb') HS1.out (HR2.out.below hb') HS2.out HM.out;refine CT.mono ?_;rintro e w'' ⟨rfl,hb⟩;exact⟨_,rfl,rfl,hb⟩
   rintro _ rfl
   conv=>arg 10;simp only[Act.put,zq0,zq1,zq2]
   refine FS.wpF_nil (fun w101 hb hF=>?_);clear hF;have KG:=qk KG hb;clear hb;go_wp2_with fail
   go_roundw
   case rel =>
    exact⟨j+1,by have:=HJN.out;omega,rfl,KG.out⟩
   case measure=>simp[intOf];have:=HJN.out;omega
  ·have hge:¬((j:Int)<(xn:Int)):=by omega
   obtain rfl:j=xn:=by have:=HJ.out;omega
   obtain⟨g1,g2,g3,g4,g5⟩:=G.out;have E1:=qh ((HP.out j spareT (by rw[List.getElem?_append_right (by rw[NT.out];exact Nat.le_refl _),NT.out,Nat.sub_self];rfl)).below KG.out);obtain⟨h0,h1,h2,h3,h4,h5,h6,h7⟩:=E1.out.eight;have HA:=qh (KG.out.alloc KG.out.size (.cells (TV.cells spareT).toArray 71));clear hjn;go_wp2_with fail
   go_ret;exact⟨rfl,HA.out⟩
theorem rd_same {w:World} {a:Option Addr} {n:Nat} {o p:Nat→Int} (h:Rd w a n o) (g:Rd w a n p):∀ i,i<n→o i=p i:=fun i hi=>by
 obtain⟨b,off,ha,hc⟩:=h.cells (by omega);obtain⟨b2,off2,ha2,hc2⟩:=g.cells (by omega);rw[ha] at ha2
 cases ha2
 have h1:=hc i hi;rw[hc2 i hi] at h1
 injection h1 with h1
 injection h1 with _ h1
 exact h1.symm
theorem TwN.rd {w0 w:World} {lo:Nat} {t x:NV} {o p:Nat→Int} (h:TwN w lo t x o) (h1:Rd w0 x.a x.n o) (h2:Rd w0 x.a x.n p):Rd w t.a t.n p:=by
 rw[h.n]
 exact(h.own.rd.le (Nat.le_succ _)).congr fun i hi=>by
  unfold tw;rw[if_pos hi];exact rd_same h1 h2 i hi
theorem TwN.le {w:World} {lo:Nat} {t x:NV} {o:Nat→Int} (h:TwN w lo t x o):t.n≤t.c:=by rw[h.n,h.c];exact Nat.le_succ _
theorem TwF.k {w0 w:World} {lo:Nat} {t x:FV} {o1 o2:Nat→Int} {q:Rat} (h:TwF w lo t x o1 o2) (h1:Rd w0 x.t.a x.t.n o1) (h2:Rd w0 x.l.a x.l.n o2) (hk:KF w0 x q):KF w t q :=
 ⟨⟨h.top.s.trans hk.t.s,h.top.n.trans hk.t.n,h.top.rd h1 hk.t.rd,h.top.le⟩,⟨h.low.s.trans hk.l.s,h.low.n.trans hk.l.n,h.low.rd h2 hk.l.rd,h.low.le⟩⟩
theorem TwF.b {w0 w:World} {lo:Nat} {t x:FV} {o1 o2:Nat→Int} (h:TwF w lo t x o1 o2) (h1:Rd w0 x.t.a x.t.n o1) (h2:Rd w0 x.l.a x.l.n o2) (hk:BF w0 x):BF w t:=by
 obtain⟨p1,p2,g1,g2,g3⟩:=hk.ex;exact⟨⟨p1,p2,h.top.rd h1 g1,h.low.rd h2 g2,by rw[h.top.s,h.top.n,h.low.s,h.low.n];exact g3⟩,h.top.le,h.low.le⟩
theorem TwF.a {w0 w:World} {lo:Nat} {t x:FV} {o1 o2:Nat→Int} {q:Rat} (h:TwF w lo t x o1 o2) (h1:Rd w0 x.t.a x.t.n o1) (h2:Rd w0 x.l.a x.l.n o2) (hk:AF w0 x q):AF w t q:=by
 obtain⟨p1,p2,g1,g2,g3⟩:=hk.ex;exact⟨⟨p1,p2,h.top.rd h1 g1,h.low.rd h2 g2,by rw[h.top.s,h.top.n,h.low.s,h.low.n];exact g3⟩,h.top.le,h.low.le⟩
theorem TwP.rt {w0 w:World} {lo:Nat} {x:PV} {ts us:List TV} (h:TwP w0 w lo x ts us):RT w x.a ts∧ts.length=x.n∧x.n≤x.c:=by
 have hxn:=h.n;have hle:=h.len;obtain⟨xa,xn,xc⟩:=x;change xn=us.length at hxn;obtain⟨a',c',e,hc,hr⟩:=OT.slice h.row;change Value.slice xa (xn+1) xc=_ at e
 injection e with e1 e2 e3
 subst e1 e3;refine⟨⟨fun hne=>?_⟩,by show ts.length=xn;omega,by show xn≤xc;omega⟩;obtain⟨b,off,ha,hcc⟩:=hr.ex (by simp);exact⟨b,off,ha,fun i t hi=>hcc i t (by rw[List.getElem?_append_left (List.getElem?_eq_some_iff.1 hi).1];exact hi)⟩
def Tw2 (w0 w:World) (lo:Nat) (y x:PV):Prop:=∃ ts us,TwP w0 w lo y ts us∧RT w0 x.a us∧us.length=x.n∧∀ u∈us,u.c.t.n≤100000000∧u.c.l.n≤100000000
theorem TwP.below {w0 w w':World} {lo:Nat} {x:PV} {ts us:List TV} (h:TwP w0 w lo x ts us) (hb:Below w.heap.size w w'):TwP w0 w' lo x ts us:=⟨OT.below h.row hb,h.n,h.len,fun i t u h1 h2=>(h.each i t u h1 h2).below hb,h.ap⟩
theorem Tw2.below {w0 w w':World} {lo:Nat} {y x:PV} (h:Tw2 w0 w lo y x) (hb:Below w.heap.size w w'):Tw2 w0 w' lo y x:=by
 obtain⟨ts,us,h1,h2⟩:=h;exact⟨ts,us,h1.below hb,h2⟩
theorem Tw2.left {w0 w:World} {lo:Nat} {y x:PV} (h:Tw2 w0 w lo y x) (hw:Below w0.heap.size w0 w) (hn:x.n≤1000000) :
  Calls Tryz.prog 21 #[y.v,x.v] w fun e w'=>e=.returned (.bool true)∧Below w.heap.size w w':=by
 obtain⟨ts,us,h1,h2,h3,h4⟩:=h;exact leftPoly_any y x ts us lo w0 w h1 hw h2 h3 hn h4
theorem zip_get {α β:Type} {l:List α} {m:List β} {i:Nat} {a:α} {b:β} (h:(l.zip m)[i]?=some (a,b)):l[i]?=some a∧m[i]?=some b:=by
 rw[List.getElem?_zip_eq_some] at h;exact h
theorem twin_k (x:PV) (P:List Tm) (w:World) (h:KP w x P) (hl:∀ t∈P,LQ t.2 900000) (hx:x.n≤1000000) :
  Calls Tryz.prog 12 #[x.v] w fun e w'=>∃ y:PV,e=.returned y.v∧y.n=x.n∧KP w' y P∧Tw2 w w' w.heap.size y x∧Below w.heap.size w w':=by
 obtain⟨L,h1,h2,h3,h4⟩:=h.ex
 have hs:∀ u∈L.map Prod.fst,u.c.t.n≤100000000∧u.c.l.n≤100000000:=fun u hu=>by
  obtain⟨e,he,rfl⟩:=List.mem_map.1 hu;have:=(h3 e he).len (hl (e.1.m,e.2) (by rw[← h4];exact List.mem_map.2 ⟨e,he,rfl⟩)) (Nat.le_refl _);exact⟨by have:=this.1;omega,by have:=this.2;omega⟩
 refine(twinPoly_any x (L.map Prod.fst) w h1 (by rw[List.length_map,h2]) hx fun u hu=>?_).mono fun e w' ⟨y,ts,he,hn,ht,hb⟩=>?_
 ·obtain⟨g1,g2⟩:=hs u hu;obtain⟨e,he,rfl⟩:=List.mem_map.1 hu;exact⟨_,_,(h3 e he).t.rd,(h3 e he).l.rd,g1,g2⟩
 ·obtain⟨r1,r2,r3⟩:=ht.rt
  have hlen:ts.length=(L.map Prod.snd).length:=by rw[ht.len,List.length_map,List.length_map]
  refine⟨y,he,hn,⟨⟨ts.zip (L.map Prod.snd),?_,?_,fun e he=>?_,?_⟩,r3,h.canon,h.small⟩,⟨ts,_,ht,h1,by rw[List.length_map,h2],hs⟩,hb⟩
  ·rw[List.map_fst_zip (by omega)];exact r1
  ·rw[List.length_zip,← hlen,Nat.min_self,r2]
  ·obtain⟨i,hi⟩:=List.mem_iff_getElem?.1 he;obtain⟨t,q⟩:=e;obtain⟨i1,i2⟩:=zip_get hi;rw[List.getElem?_map] at i2;obtain⟨e2,e3,rfl⟩:=Option.map_eq_some_iff.1 i2;obtain⟨-,o1,o2,g1,g2,g3⟩:=ht.each i t e2.1 i1 (by rw[List.getElem?_map,e3];rfl);exact g3.k g1 g2 (h3 e2 (List.mem_of_getElem? e3))
  ·rw[← h4]
   refine List.ext_getElem? fun i=>?_
   rw[List.getElem?_map,List.getElem?_map]
   cases e3:L[i]? with
   | none =>
    have h9:=List.getElem?_eq_none_iff.1 e3
    rw[List.getElem?_eq_none (l:=ts.zip (L.map Prod.snd)) (by rw[List.length_zip,hlen,List.length_map,Nat.min_self];exact h9)]
   | some e2 =>
    have hil:=(List.getElem?_eq_some_iff.1 e3).1;obtain⟨t,e4⟩:∃ t,ts[i]?=some t:=⟨_,List.getElem?_eq_getElem (by rw[hlen,List.length_map];exact hil)⟩
    have e5:(ts.zip (L.map Prod.snd))[i]?=some (t,e2.2):=by
     rw[List.getElem?_zip_eq_some];exact⟨e4,by rw[List.getElem?_map,e3];rfl⟩
    obtain⟨hm,-⟩:=ht.each i t e2.1 e4 (by rw[List.getElem?_map,e3];rfl);rw[e5];show some (t.m,e2.2)=some (e2.1.m,e2.2);rw[hm]
theorem vals_same:∀ {L M:List TO},L.length=M.length→(∀ (i:Nat) (e f:TO),L[i]?=some e→M[i]?=some f→e.1.m=f.1.m∧e.2=f.2)→vals L=vals M
 | [],[],_,_=>rfl
 | [],_ :: _,h,_=>by simp at h
 | _ :: _,[],h,_=>by simp at h
 | (a,p) :: l,(b,q) :: m,h,hh=>by
  obtain⟨h1,h2⟩:=hh 0 _ _ rfl rfl;have h1:a.m=b.m:=h1;have h2:p=q:=h2;subst h2
  have:=vals_same (L:=l) (M:=m) (by simpa using h) fun i e f he hf=>hh (i+1) e f he hf
  unfold vals;rw[this];clear h hh this
  cases p with
  | none=>rfl
  | some q =>
   cases vals m with
   | none=>rfl
   | some l =>
    show some ((a.m,q) :: l)=some ((b.m,q) :: l);rw[h1]
theorem twin_b (x:PV) (w:World) (h:BP w x) (hx:x.n≤1000000) :
  Calls Tryz.prog 12 #[x.v] w fun e w'=>∃ y:PV,e=.returned y.v∧y.n=x.n∧BP w' y∧Tw2 w w' w.heap.size y x∧Below w.heap.size w w':=by
 obtain⟨L,⟨h1,h2,h3,h4,h5,h6⟩,hno⟩:=h
 have hs:∀ u∈L.map Prod.fst,u.c.t.n≤100000000∧u.c.l.n≤100000000:=fun u hu=>by
  obtain⟨e,he,rfl⟩:=List.mem_map.1 hu;have:=h6 e he;exact⟨by have:=this.1;omega,by have:=this.2;omega⟩
 refine(twinPoly_any x (L.map Prod.fst) w h1 (by rw[List.length_map,h2]) hx fun u hu=>?_).mono fun e w' ⟨y,ts,he,hn,ht,hb⟩=>?_
 ·obtain⟨g1,g2⟩:=hs u hu;obtain⟨e,he,rfl⟩:=List.mem_map.1 hu;have h7:=h4 e he;unfold TO.ok at h7
  split at h7
  ·exact⟨_,_,h7.t.rd,h7.l.rd,g1,g2⟩
  ·obtain⟨o1,o2,q1,q2,-⟩:=h7.ex;exact⟨o1,o2,q1,q2,g1,g2⟩
 ·obtain⟨r1,r2,r3⟩:=ht.rt
  have hlen:ts.length=(L.map Prod.snd).length:=by rw[ht.len,List.length_map,List.length_map]
  have get:∀ (i:Nat) (e:TO),(ts.zip (L.map Prod.snd))[i]?=some e→∃ e2 o1 o2,L[i]?=some e2∧e.2=e2.2∧e.1.m=e2.1.m∧Rd w e2.1.c.t.a e2.1.c.t.n o1∧Rd w e2.1.c.l.a e2.1.c.l.n o2∧TwF w' w.heap.size e.1.c e2.1.c o1 o2:=fun i e hi=>by
   obtain⟨t,q⟩:=e;obtain⟨i1,i2⟩:=zip_get hi;rw[List.getElem?_map] at i2;obtain⟨e2,e3,rfl⟩:=Option.map_eq_some_iff.1 i2;obtain⟨hm,o1,o2,g1,g2,g3⟩:=ht.each i t e2.1 i1 (by rw[List.getElem?_map,e3];rfl);exact⟨e2,o1,o2,e3,rfl,hm,g1,g2,g3⟩
  refine⟨y,he,hn,⟨ts.zip (L.map Prod.snd),⟨?_,?_,r3,fun e he=>?_,fun e he=>?_,fun e he=>?_⟩,?_⟩,⟨ts,_,ht,h1,by rw[List.length_map,h2],hs⟩,hb⟩
  ·rw[List.map_fst_zip (by omega)];exact r1
  ·rw[List.length_zip,← hlen,Nat.min_self,r2]
  ·obtain⟨i,hi⟩:=List.mem_iff_getElem?.1 he;obtain⟨e2,o1,o2,g1,g2,-,g3,g4,g5⟩:=get i e hi;have h7:=h4 e2 (List.mem_of_getElem? g1);obtain⟨t,q⟩:=e;obtain⟨t2,q2⟩:=e2;have g2:q=q2:=g2;subst g2;unfold TO.ok at h7 ⊢
   cases q with
   | some q=>exact g5.k g3 g4 h7
   | none=>exact g5.b g3 g4 h7
  ·obtain⟨i,hi⟩:=List.mem_iff_getElem?.1 he;obtain⟨e2,o1,o2,g1,-,g2,-⟩:=get i e hi;rw[g2];exact h5 e2 (List.mem_of_getElem? g1)
  ·obtain⟨i,hi⟩:=List.mem_iff_getElem?.1 he;obtain⟨e2,o1,o2,g1,-,-,-,-,g5⟩:=get i e hi;have h8:=h6 e2 (List.mem_of_getElem? g1);exact⟨by rw[g5.top.n];exact h8.1,by rw[g5.low.n];exact h8.2⟩
  ·rw[show okP (ts.zip (L.map Prod.snd))=okP L by
    unfold okP
    rw[vals_same (L:=ts.zip (L.map Prod.snd)) (M:=L) (by rw[List.length_zip,hlen,Nat.min_self,List.length_map]) fun i e f he hf=>by
     obtain⟨e2,-,-,g1,g2,g3,-⟩:=get i e he;rw[hf] at g1;obtain rfl:=Option.some.inj g1
     exact⟨g3,g2⟩]]
   exact hno
theorem twin_a (x:PV) (P:List Tm) (w:World) (h:AP w x P) (hl:∀ t∈P,LQ t.2 900000) (hx:x.n≤1000000) :
  Calls Tryz.prog 12 #[x.v] w fun e w'=>∃ y:PV,e=.returned y.v∧y.n=x.n∧AP w' y P∧Tw2 w w' w.heap.size y x∧Below w.heap.size w w':=by
 rcases h with h | ⟨h,rfl⟩
 ·exact(twin_k x P w h hl hx).mono fun e w' ⟨y,h1,h2,h3,h4⟩=>⟨y,h1,h2,Or.inl h3,h4⟩
 ·exact(twin_b x w h hx).mono fun e w' ⟨y,h1,h2,h3,h4⟩=>⟨y,h1,h2,Or.inr ⟨h3,rfl⟩,h4⟩
end Go.Proofs.YtgkkbkoiaccmfaaGreatDoor.Pol
namespace Go.Proofs.YtgkkbkoiaccmfaaGreatDoor.Book
open Go.RowKit Go.Sort Go.FreshG Go.Proofs.YtgkkbkoiaccmfaaGreatDoor.Limb Go.Proofs.YtgkkbkoiaccmfaaGreatDoor.Pol
structure HG (w:World) (lo:Nat) (S:Nat→Prop) (L M:List HL):Prop where
 num:∀ x∈L,(∃ o,Limb.Own 160 w lo x.a x.n x.c o)∧x.n≤900000000
 row:∀ x∈M,(∃ o,OwnT w lo x.a x.n x.c o)∧x.n≤100000000
 at_:∀ x:HL,x∈L++M→∀ p:Addr,x.a=some p→S p.block
 nq:∀ x:HL,x∈L++M→x.q≤30000
 al:Aparts L
 am:Aparts M
theorem HG.nil (w:World) (lo:Nat) (S:Nat→Prop):HG w lo S [] []:=⟨fun x h=>(by cases h),fun x h=>(by cases h),fun x h=>(by cases h),fun x h=>(by cases h),List.Pairwise.nil,List.Pairwise.nil⟩
theorem HG.app {w:World} {lo:Nat} {S T U:Nat→Prop} {L M L2 M2:List HL} (h:HG w lo S L M) (g:HG w lo T L2 M2) (hS:∀ b,S b→U b) (hT:∀ b,T b→U b) (hd:∀ b,S b→¬T b):HG w lo U (L++L2) (M++M2) where
 num x hx:=(List.mem_append.1 hx).elim (h.num x) (g.num x)
 row x hx:=(List.mem_append.1 hx).elim (h.row x) (g.row x)
 at_ x hx p hp:=by
  rcases List.mem_append.1 hx with hx | hx <;> rcases List.mem_append.1 hx with hx | hx
  ·exact hS _ (h.at_ x (List.mem_append_left _ hx) p hp)
  ·exact hT _ (g.at_ x (List.mem_append_left _ hx) p hp)
  ·exact hS _ (h.at_ x (List.mem_append_right _ hx) p hp)
  ·exact hT _ (g.at_ x (List.mem_append_right _ hx) p hp)
 nq x hx:=by
  rcases List.mem_append.1 hx with hx | hx <;> rcases List.mem_append.1 hx with hx | hx
  ·exact h.nq x (List.mem_append_left _ hx)
  ·exact g.nq x (List.mem_append_left _ hx)
  ·exact h.nq x (List.mem_append_right _ hx)
  ·exact g.nq x (List.mem_append_right _ hx)
 al:=List.pairwise_append.2 ⟨h.al,g.al,fun x hx y hy p q hp hq e=>hd p.block (h.at_ x (List.mem_append_left _ hx) p hp) (by rw[e];exact g.at_ y (List.mem_append_left _ hy) q hq)⟩
 am:=List.pairwise_append.2 ⟨h.am,g.am,fun x hx y hy p q hp hq e=>hd p.block (h.at_ x (List.mem_append_right _ hx) p hp) (by rw[e];exact g.at_ y (List.mem_append_right _ hy) q hq)⟩
theorem HG.keep {w w':World} {lo:Nat} {S:Nat→Prop} {L M:List HL} (h:HG w lo S L M) (hk:∀ b,S b→w'.heap[b]?=w.heap[b]?):HG w' lo S L M where
 num x hx:=by
  obtain⟨⟨o,ho⟩,hn⟩:=h.num x hx;exact⟨⟨o,ho.keep fun p hp=>hk _ (h.at_ x (List.mem_append_left _ hx) p hp)⟩,hn⟩
 row x hx:=by
  obtain⟨⟨o,ho⟩,hn⟩:=h.row x hx;exact⟨⟨o,ho.keep fun p hp=>hk _ (h.at_ x (List.mem_append_right _ hx) p hp)⟩,hn⟩
 at_:=h.at_
 nq:=h.nq
 al:=h.al
 am:=h.am
theorem HG.mono {w:World} {lo lo':Nat} {S:Nat→Prop} {L M:List HL} (h:HG w lo S L M) (hl:lo'≤lo):HG w lo' S L M where
 num x hx:=by
  obtain⟨⟨o,ho⟩,hn⟩:=h.num x hx;exact⟨⟨o,ho.mono hl⟩,hn⟩
 row x hx:=by
  obtain⟨⟨o,ho⟩,hn⟩:=h.row x hx;exact⟨⟨o,ho.mono hl⟩,hn⟩
 at_:=h.at_
 nq:=h.nq
 al:=h.al
 am:=h.am
theorem BkS.apartG {w:World} {b base q lo:Nat} {S:Nat→Prop} {L M:List HL} (h:BkS w b base q L M) (hG:HG w lo S L M) (h0:0<L.length) (h1:0<M.length) (hk:L.length≤30000) (hkt:M.length≤30000) (hS:∀ b,S b→lo≤b∧b<base) (hlo:lo≤base) :
  Calls Tryz.prog 25 #[.pointer (some ⟨b,0,none⟩)] w fun e w'=>e=.returned (.bool true)∧Below lo w w':=by
 classical
 have hO:∀ x:HL,∃ o,x∈L→Limb.Own 160 w lo x.a x.n x.c o:=fun x=>by
  by_cases hx:x∈L
  ·obtain⟨o,ho⟩:=(hG.num x hx).1;exact⟨o,fun _=>ho⟩
  ·exact⟨fun _=>0,fun h=>absurd h hx⟩
 have hT:∀ x:HL,∃ o,x∈M→OwnT w lo x.a x.n x.c o:=fun x=>by
  by_cases hx:x∈M
  ·obtain⟨o,ho⟩:=(hG.row x hx).1;exact⟨o,fun _=>ho⟩
  ·exact⟨fun _=>.bool true,fun h=>absurd h hx⟩
 obtain⟨O,hO⟩:=Classical.axiomOfChoice hO;obtain⟨Ot,hT⟩:=Classical.axiomOfChoice hT
 refine h.apart h0 h1 hk hkt (fun x hx=>hG.nq x (List.mem_append_left _ hx)) (fun x hx=>hG.nq x (List.mem_append_right _ hx)) O Ot hO hT (fun x hx=>(hG.num x hx).2) (fun x hx=>(hG.row x hx).2)
  (fun x hx p hp=>hS _ (hG.at_ x hx p hp)) hlo hG.al hG.am fun x hx y hy p q hp hq e=>?_
 rcases(hO x hx).place with ⟨h,-⟩ | ⟨g,cur,ha,-,hg,-⟩
 ·rw[h] at hp;cases hp
 ·rcases(hT y hy).place with ⟨h,-⟩ | ⟨g2,cur2,ha2,-,hg2,-⟩
  ·rw[h] at hq;cases hq
  ·rw[ha] at hp;rw[ha2] at hq
   cases hp;cases hq
   change g=g2 at e;subst e;rw[hg] at hg2
   injection hg2 with hg2
   injection hg2 with _ hg2
   exact absurd hg2 (by decide)
theorem own_lt {w:World} {lo n c:Nat} {a:Option Addr} {o:Nat→Int} (h:Limb.Own 160 w lo a n c o) {p:Addr} (hp:a=some p):lo≤p.block∧p.block<w.heap.size:=(h.blk hp).2
theorem ownT_lt {w:World} {lo n c:Nat} {a:Option Addr} {o:Nat→Value} (h:OwnT w lo a n c o) {p:Addr} (hp:a=some p):lo≤p.block∧p.block<w.heap.size:=by
 rcases h.place with h0 | ⟨g,cur,ha,hbg,hg,hcap,hc⟩
 ·rw[h0.1] at hp;cases hp
 ·rw[ha] at hp
  cases hp
  exact⟨hbg,lt_of_block hg⟩
def Bw (lo hi b:Nat):Prop:=lo≤b∧b<hi
structure TOwn (w:World) (lo:Nat) (t:FV):Prop where
 top:∃ o,Limb.Own 160 w lo t.t.a t.t.n t.t.c o
 low:∃ o,Limb.Own 160 w lo t.l.a t.l.n t.l.c o
 ap:Apart2 t.t.a t.l.a
 n:t.t.n≤900000000∧t.l.n≤900000000
theorem TOwn.hg {w:World} {lo:Nat} {t:FV} (h:TOwn w lo t) {q:Nat} (hq:q+1≤30000):HG w lo (Bw lo w.heap.size) [⟨t.t.a,t.t.n,t.t.c,q⟩,⟨t.l.a,t.l.n,t.l.c,q+1⟩] [] where
 num x hx:=by
  rcases List.mem_cons.1 hx with rfl | hx
  ·exact⟨h.top,h.n.1⟩
  ·rw[List.mem_singleton.1 hx];exact⟨h.low,h.n.2⟩
 row x hx:=by cases hx
 at_ x hx p hp:=by
  rw[List.append_nil] at hx
  rcases List.mem_cons.1 hx with rfl | hx
  ·obtain⟨o,ho⟩:=h.top;exact own_lt ho hp
  ·rw[List.mem_singleton.1 hx] at hp;obtain⟨o,ho⟩:=h.low;exact own_lt ho hp
 nq x hx:=by
  rw[List.append_nil] at hx
  rcases List.mem_cons.1 hx with rfl | hx
  ·show q≤30000;omega
  ·rw[List.mem_singleton.1 hx];exact hq
 al:=List.pairwise_cons.2 ⟨fun y hy p q hp hq=>by rw[List.mem_singleton.1 hy] at hq;exact h.ap p q hp hq,List.pairwise_singleton _ _⟩
 am:=List.Pairwise.nil
theorem DF.town {w:World} {lo:Nat} {x:FV} {q:Rat} (h:DF w lo x q) (hl:LQ q 900000):TOwn w lo x:=⟨⟨_,h.t.own⟩,⟨_,h.l.own⟩,h.ap,by
 have:=h.k.len hl (Nat.le_refl _)
 exact⟨by have:=this.1;omega,by have:=this.2;omega⟩⟩
theorem TwF.town {w:World} {lo:Nat} {t x:FV} {o1 o2:Nat→Int} (h:TwF w lo t x o1 o2) (h1:x.t.n≤100000000) (h2:x.l.n≤100000000):TOwn w lo t :=
 ⟨⟨_,by rw[h.top.n,h.top.c];exact h.top.own.less (Nat.le_succ _)⟩,⟨_,by rw[h.low.n,h.low.c];exact h.low.own.less (Nat.le_succ _)⟩,h.ap,by rw[h.top.n,h.low.n];omega⟩
theorem termsL_mem:∀ {ts:List TV} {q:Nat} {x:HL},x∈termsL ts q→∃ t∈ts,x.q<q+2*ts.length∧((x.a=t.c.t.a∧x.n=t.c.t.n∧x.c=t.c.t.c)∨(x.a=t.c.l.a∧x.n=t.c.l.n∧x.c=t.c.l.c))
 | [],_,_,h=>by cases h
 | t :: r,q,x,h=>by
  rcases List.mem_cons.1 h with rfl | h
  ·exact⟨t,List.mem_cons_self ..,by simp only[List.length_cons];omega,Or.inl ⟨rfl,rfl,rfl⟩⟩
  ·rcases List.mem_cons.1 h with rfl | h
   ·exact⟨t,List.mem_cons_self ..,by simp only[List.length_cons];omega,Or.inr ⟨rfl,rfl,rfl⟩⟩
   ·obtain⟨s,h1,h2,h3⟩:=termsL_mem h;exact⟨s,List.mem_cons_of_mem _ h1,by simp only[List.length_cons];omega,h3⟩
theorem blk_t {t:FV} {x:HL} (h:x.a=t.t.a∧x.n=t.t.n∧x.c=t.t.c∨x.a=t.l.a∧x.n=t.l.n∧x.c=t.l.c) {p:Addr} (hp:x.a=some p):FV.blk t p.block:=by
 rcases h with ⟨h,-⟩ | ⟨h,-⟩
 ·exact Or.inl ⟨p,h.symm.trans hp,rfl⟩
 ·exact Or.inr ⟨p,h.symm.trans hp,rfl⟩
theorem termsL_apart:∀ {ts:List TV} {q:Nat},(∀ t∈ts,Apart2 t.c.t.a t.c.l.a)→(ts.Pairwise fun t s=>FV.apart t.c s.c)→Aparts (termsL ts q)
 | [],_,_,_=>List.Pairwise.nil
 | t :: r,q,h,hp=>by
  obtain⟨h1,h2⟩:=List.pairwise_cons.1 hp;have hr:=termsL_apart (ts:=r) (q:=q+2) (fun s hs=>h s (List.mem_cons_of_mem _ hs)) h2
  have far:∀ y∈termsL r (q+2),∀ p:Addr,y.a=some p→¬FV.blk t.c p.block:=fun y hy p hp hb=>by
   obtain⟨s,hs,-,e⟩:=termsL_mem hy;exact h1 s hs _ hb (blk_t e hp)
  refine List.pairwise_cons.2 ⟨fun y hy p p2 e1 e2=>?_,List.pairwise_cons.2 ⟨fun y hy p p2 e1 e2 he=>?_,hr⟩⟩
  ·rcases List.mem_cons.1 hy with rfl | hy
   ·exact h t (List.mem_cons_self ..) p p2 e1 e2
   ·exact fun he=>far y hy p2 e2 (Or.inl ⟨p,e1,he⟩)
  ·exact far y hy p2 e2 (Or.inr ⟨p,e1,he⟩)
theorem terms_hg {w:World} {lo:Nat} {ts:List TV} {a:Option Addr} {n c:Nat} {q:Nat} {o:Nat→Value} (h:∀ t∈ts,TOwn w lo t.c) (hp:ts.Pairwise fun t s=>FV.apart t.c s.c) (hr:OwnT w lo a n c o) (hn:n≤100000000) (hq:q+2*ts.length≤30000) :
  HG w lo (Bw lo w.heap.size) (termsL ts q) [⟨a,n,c,q+2*ts.length⟩] where
 num x hx:=by
  obtain⟨t,ht,-,⟨e1,e2,e3⟩ | ⟨e1,e2,e3⟩⟩:=termsL_mem hx
  ·obtain⟨o,ho⟩:=(h t ht).top;exact⟨⟨o,by rw[e1,e2,e3];exact ho⟩,by rw[e2];exact(h t ht).n.1⟩
  ·obtain⟨o,ho⟩:=(h t ht).low;exact⟨⟨o,by rw[e1,e2,e3];exact ho⟩,by rw[e2];exact(h t ht).n.2⟩
 row x hx:=by rw[List.mem_singleton.1 hx];exact⟨⟨o,hr⟩,hn⟩
 at_ x hx p e:=by
  rcases List.mem_append.1 hx with hx | hx
  ·obtain⟨t,ht,-,⟨e1,e2,e3⟩ | ⟨e1,e2,e3⟩⟩:=termsL_mem hx
   ·obtain⟨o,ho⟩:=(h t ht).top;exact own_lt ho (e1.symm.trans e)
   ·obtain⟨o,ho⟩:=(h t ht).low;exact own_lt ho (e1.symm.trans e)
  ·rw[List.mem_singleton.1 hx] at e;exact ownT_lt hr e
 nq x hx:=by
  rcases List.mem_append.1 hx with hx | hx
  ·obtain⟨t,ht,hl,-⟩:=termsL_mem hx;omega
  ·rw[List.mem_singleton.1 hx];exact hq
 al:=termsL_apart (fun t ht=>(h t ht).ap) hp
 am:=List.pairwise_singleton _ _
theorem OT.ownT {w:World} {lo n c m:Nat} {a:Option Addr} {ts:List TV} (h:OT w lo (.slice a m c) ts) (hn:n≤m):∃ o,OwnT w lo a n c o:=by
 rcases h.2 with ⟨hv,h0⟩ | ⟨g,cap,cur,hv,hlo,hg,hnc,hcm,hcs,htake⟩
 ·injection hv with e1 e2 e3
  subst e1 e2 e3;exact⟨fun _=>.bool true,⟨by omega,Or.inl ⟨rfl,by omega,rfl⟩⟩⟩
 ·injection hv with e1 e2 e3
  subst e1 e2 e3;refine⟨fun i=>cur.getD i (.bool true),⟨by omega,Or.inr ⟨g,cur,rfl,hlo,hg,by omega,fun i hi=>?_⟩⟩⟩
  have hi2:i<cur.size:=by have:=Nat.mul_le_mul_right 8 (Nat.le_trans hn hnc);omega
  rw[Array.getElem?_eq_getElem hi2,Array.getD_eq_getD_getElem?,Array.getElem?_eq_getElem hi2]
  rfl
theorem DP.hg {w:World} {lo:Nat} {x:PV} {P:List Tm} (h:DP w lo x P) (hl:∀ t∈P,LQ t.2 900000) (hn:P.length≤10000) {q:Nat} (hq:q+2*P.length≤30000) :
  ∃ ts:List TV,RT w x.a ts∧ts.length=x.n∧x.n=P.length∧HG w lo (Bw lo w.heap.size) (termsL ts q) [⟨x.a,x.n,x.c,q+2*x.n⟩]:=by
 have hxn:=h.k.len;obtain⟨L,h1,h2,h3,h4⟩:=h.ex;obtain⟨xa,xn,xc⟩:=x;change xn=P.length at hxn;obtain⟨a',c',e,hc,hr⟩:=OT.slice h1;change Value.slice xa xn xc=_ at e
 injection e with e1 e2 e3
 subst e1 e3;obtain⟨o,ho⟩:=OT.ownT (n:=xn) h1 (Nat.le_refl _);refine⟨L.map Prod.fst,hr,e2.symm,hxn,?_⟩
 have hh:=terms_hg (q:=q) (fun t ht=>by
  obtain⟨e,he,rfl⟩:=List.mem_map.1 ht
  exact DF.town (h2 e he) (hl (e.1.m,e.2) (by rw[← h4];exact List.mem_map.2 ⟨e,he,rfl⟩))) (List.pairwise_map.2 h3) ho (by omega) (by rw[← e2];omega)
 rw[← e2] at hh;exact hh
theorem TwP.hg {w0 w:World} {lo:Nat} {x:PV} {ts us:List TV} (h:TwP w0 w lo x ts us) (hs:∀ u∈us,u.c.t.n≤100000000∧u.c.l.n≤100000000) (hn:us.length≤10000) {q:Nat} (hq:q+2*us.length≤30000) :
  RT w x.a ts∧ts.length=x.n∧HG w lo (Bw lo w.heap.size) (termsL ts q) [⟨x.a,x.n,x.c,q+2*x.n⟩]:=by
 have hxn:=h.n;have hle:=h.len;obtain⟨xa,xn,xc⟩:=x;change xn=us.length at hxn;obtain⟨a',c',e,hc,hr⟩:=OT.slice h.row;change Value.slice xa (xn+1) xc=_ at e
 injection e with e1 e2 e3
 subst e1 e3;obtain⟨o,ho⟩:=OT.ownT (n:=xn) h.row (Nat.le_succ _);refine⟨⟨fun hne=>?_⟩,by show ts.length=xn;omega,?_⟩
 ·obtain⟨b,off,ha,hcc⟩:=hr.ex (by simp);exact⟨b,off,ha,fun i t hi=>hcc i t (by rw[List.getElem?_append_left (List.getElem?_eq_some_iff.1 hi).1];exact hi)⟩
 ·have hh:=terms_hg (q:=q) (fun t ht=>by
   obtain⟨i,hi⟩:=List.mem_iff_getElem?.1 ht;have hil:=(List.getElem?_eq_some_iff.1 hi).1;have hu:us[i]?=some us[i]:=List.getElem?_eq_getElem (by omega);obtain⟨-,o1,o2,-,-,hf⟩:=h.each i t _ hi hu;obtain⟨g1,g2⟩:=hs _ (List.mem_of_getElem? hu)
   exact TwF.town hf g1 g2) h.ap ho (by omega) (by omega)
  rw[show ts.length=xn by omega] at hh;exact hh
abbrev book0:Array Value:=#[.int .i64 0,.slice none 0 0,.slice none 0 0,.slice none 0 0,.slice none 0 0,.slice none 0 0,.slice none 0 0,.slice none 0 0,.slice none 0 0,.slice none 0 0,.slice none 0 0,.slice none 0 0,.slice none 0 0]
theorem BkS.new (w:World):BkS (w.alloc (.cells book0 53)) w.heap.size w.heap.size 0 [] []:=by
 refine⟨⟨.slice none 0 0,.slice none 0 0,⟨?_,World.ownsRow_nil _ _ _ _,World.ownsRow_nil _ _ _ _,(fun h=>by cases h),(fun h=>by cases h),fun g h=>by cases h⟩,fun _=>rfl,fun _=>rfl⟩,Nat.le_refl _,by rw[World.size_alloc];exact Nat.le_succ _⟩
 refine World.rowIs_alloc w _ 53 _ fun i hi=>?_
 have:i=0∨i=1∨i=2∨i=3∨i=4∨i=5∨i=6∨i=7∨i=8∨i=9∨i=10∨i=11∨i=12:=by
  have:i<13:=hi;omega
 rcases this with rfl | rfl | rfl | rfl | rfl | rfl | rfl | rfl | rfl | rfl | rfl | rfl | rfl <;> rfl
theorem RT.keepB {base:Nat} {w w':World} {a:Option Addr} {ts:List TV} (h:RT w a ts) (hk:KeepB base w w') (hf:∀ p,a=some p→p.block<base):RT w' a ts:=by
 refine⟨fun hn=>?_⟩;obtain⟨b,off,ha,hc⟩:=h.ex hn;exact⟨b,off,ha,fun i t hi j v hj=>(World.cell?_of_block (a:=⟨b,off+i*8+j,none⟩) (hk.bel.block b (hf _ ha))).trans (hc i t hi j v hj)⟩
theorem HG.keepB {base:Nat} {w w':World} {lo:Nat} {S:Nat→Prop} {L M:List HL} (h:HG w lo S L M) (hk:KeepB base w w') (hS:∀ b,S b→b<base):HG w' lo S L M:=h.keep fun b hb=>hk.bel.block b (hS b hb)
structure PG (w:World) (x:PV) (q:Nat) (ts:List TV) (lo hi:Nat) (S:Nat→Prop):Prop where
 rt:RT w x.a ts
 len:ts.length=x.n
 hg:HG w lo S (termsL ts q) [⟨x.a,x.n,x.c,q+2*x.n⟩]
 at_:∀ b,S b→b<hi
theorem PG.far {w:World} {x:PV} {q:Nat} {ts:List TV} {lo hi:Nat} {S:Nat→Prop} (h:PG w x q ts lo hi S):∀ p,x.a=some p→p.block<hi:=fun p hp=>h.at_ _ (h.hg.at_ ⟨x.a,x.n,x.c,q+2*x.n⟩ (by simp) p hp)
theorem PG.keepB {base:Nat} {w w':World} {x:PV} {q:Nat} {ts:List TV} {lo hi:Nat} {S:Nat→Prop} (h:PG w x q ts lo hi S) (hk:KeepB base w w') (hh:hi≤base):PG w' x q ts lo hi S :=
 ⟨RT.keepB h.rt hk fun p hp=>Nat.lt_of_lt_of_le (h.far p hp) hh,h.len,h.hg.keepB hk fun b hb=>Nat.lt_of_lt_of_le (h.at_ b hb) hh,h.at_⟩
theorem PG.below {w w':World} {x:PV} {q:Nat} {ts:List TV} {lo hi:Nat} {S:Nat→Prop} (h:PG w x q ts lo hi S) (hb:Below w.heap.size w w') (hh:hi≤w.heap.size):PG w' x q ts lo hi S :=
 ⟨h.rt.below hb,h.len,h.hg.keep fun b hS=>hb.block b (Nat.lt_of_lt_of_le (h.at_ b hS) hh),h.at_⟩
structure BG (w:World) (b base q lo hi l m:Nat):Prop where
 ex:∃ L M,L.length=l∧M.length=m∧BkS w b base q L M∧HG w lo (Bw lo hi) L M
 lq:l+m=q
 h1:lo≤hi
 h2:hi≤base
def BGs (b base q lo hi l m:Nat) (w:World) (e:Ending) (w':World):Prop:=(∃ r,e=.returned r)∧BG w' b base q lo hi l m∧KeepB base w w'
theorem BG.new (w:World) {lo:Nat} (h:lo≤w.heap.size):BG (w.alloc (.cells book0 53)) w.heap.size w.heap.size 0 lo lo 0 0 :=
 ⟨⟨[],[],rfl,rfl,BkS.new w,HG.nil _ _ _⟩,rfl,Nat.le_refl _,h⟩
theorem BG.step {w w':World} {b base q q' lo hi lo' hi':Nat} {L M L2 M2:List HL} {e:Ending} (hG:HG w lo (Bw lo hi) L M) (g:HG w lo' (Bw lo' hi') L2 M2) (lq:L.length+M.length=q) (h1:lo≤hi) (h2:hi≤lo') (h3:lo'≤hi') (h4:hi'≤base) (hq:L2.length+M2.length+q=q') (h:KeptS b base q' (L++L2) (M++M2) w e w') :
  BGs b base q' lo hi' (L.length+L2.length) (M.length+M2.length) w e w' :=
 ⟨h.1,⟨⟨L++L2,M++M2,List.length_append,List.length_append,h.2.1,(hG.app (g.mono (Nat.le_trans h1 h2)) (fun b hb=>⟨hb.1,by have:=hb.2;omega⟩) (fun b hb=>⟨by have:=hb.1;omega,hb.2⟩) (fun b hb hc=>by have:=hb.2;have:=hc.1;omega)).keepB h.2.2 fun b hb=>Nat.lt_of_lt_of_le hb.2 h4⟩,by omega,by omega,h4⟩,h.2.2⟩
theorem BG.poly {w:World} {b base q lo hi l m:Nat} (h:BG w b base q lo hi l m) {x:PV} {ts:List TV} {lo' hi':Nat} (g:PG w x q ts lo' hi' (Bw lo' hi')) (h2:hi≤lo') (h3:lo'≤hi') (h4:hi'≤base) (hq:q+2*x.n≤29990) :
  Calls Tryz.prog 23 #[.pointer (some ⟨b,0,none⟩),x.v] w (BGs b base (q+2*x.n+1) lo hi' (l+2*x.n) (m+1) w):=by
 obtain⟨L,M,rfl,rfl,hs,hg⟩:=h.ex;have hl:=h.lq
 refine(hs.poly x ts g.rt g.len (fun p hp=>Nat.lt_of_lt_of_le (g.far p hp) h4) (by omega) (by omega) (by omega)).mono fun e w' hk=>?_
 have h5:=BG.step hg g.hg hl h.h1 h2 h3 h4 (q':=q+2*x.n+1) (by rw[termsL_len,g.len];simp;omega) hk;rw[termsL_len,g.len] at h5;exact h5
structure FG (w:World) (x:FV) (q lo hi:Nat):Prop where
 hg:HG w lo (Bw lo hi) [⟨x.t.a,x.t.n,x.t.c,q⟩,⟨x.l.a,x.l.n,x.l.c,q+1⟩] []
theorem FG.keepB {base:Nat} {w w':World} {x:FV} {q lo hi:Nat} (h:FG w x q lo hi) (hk:KeepB base w w') (hh:hi≤base):FG w' x q lo hi:=⟨h.hg.keepB hk fun b hb=>Nat.lt_of_lt_of_le hb.2 hh⟩
theorem FG.below {w w':World} {x:FV} {q lo hi:Nat} (h:FG w x q lo hi) (hb:Below w.heap.size w w') (hh:hi≤w.heap.size):FG w' x q lo hi:=⟨h.hg.keep fun b hS=>hb.block b (Nat.lt_of_lt_of_le hS.2 hh)⟩
theorem TOwn.fg {w:World} {lo:Nat} {t:FV} (h:TOwn w lo t) {q:Nat} (hq:q+1≤30000):FG w t q lo w.heap.size:=⟨h.hg hq⟩
theorem fracL_eq (L:List HL) (q:Nat) (x:FV):fracL L q x.t.a x.t.n x.t.c x.l.a x.l.n x.l.c=L++[⟨x.t.a,x.t.n,x.t.c,q⟩,⟨x.l.a,x.l.n,x.l.c,q+1⟩]:=by
 unfold fracL;rw[List.append_assoc]
 rfl
theorem BG.frac {w:World} {b base q lo hi l m:Nat} (h:BG w b base q lo hi l m) {x:FV} {lo' hi':Nat} (g:FG w x q lo' hi') (h2:hi≤lo') (h3:lo'≤hi') (h4:hi'≤base) (hq:q+2≤29990) :
  Calls Tryz.prog 24 #[.pointer (some ⟨b,0,none⟩),x.v] w (BGs b base (q+2) lo hi' (l+2) m w):=by
 obtain⟨L,M,rfl,rfl,hs,hg⟩:=h.ex;have hl:=h.lq
 refine(hs.frac (by omega) (by omega) x.t.s x.t.a x.t.n x.t.c x.l.s x.l.a x.l.n x.l.c).mono fun e w' hk=>?_
 rw[fracL_eq] at hk;exact BG.step (M2:=[]) hg g.hg hl h.h1 h2 h3 h4 (q':=q+2) (by simp;omega) (by rw[List.append_nil];exact hk)
theorem BG.apart {w:World} {b base q lo hi l m:Nat} (h:BG w b base q lo hi l m) (h0:0<l) (h1:0<m) (hq:q≤30000) :
  Calls Tryz.prog 25 #[.pointer (some ⟨b,0,none⟩)] w fun e w'=>e=.returned (.bool true)∧Below lo w w':=by
 obtain⟨L,M,rfl,rfl,hs,hg⟩:=h.ex;have hl:=h.lq;exact hs.apartG hg h0 h1 (by omega) (by omega) (fun b hb=>⟨hb.1,Nat.lt_of_lt_of_le hb.2 h.h2⟩) (Nat.le_trans h.h1 h.h2)
theorem DP.pg {w:World} {lo:Nat} {x:PV} {P:List Tm} (h:DP w lo x P) (hl:∀ t∈P,LQ t.2 900000) (hn:P.length≤10000) {q:Nat} (hq:q+2*P.length≤30000):∃ ts,PG w x q ts lo w.heap.size (Bw lo w.heap.size):=by
 obtain⟨ts,h1,h2,h3,h4⟩:=DP.hg h hl hn hq;exact⟨ts,h1,h2,h4,fun b hb=>hb.2⟩
theorem Tw2.pg {w0 w:World} {lo:Nat} {y x:PV} (h:Tw2 w0 w lo y x) (hn:x.n≤10000) {q:Nat} (hq:q+2*x.n≤30000):∃ ts,PG w y q ts lo w.heap.size (Bw lo w.heap.size):=by
 obtain⟨ts,us,h1,h2,h3,h4⟩:=h;obtain⟨g1,g2,g3⟩:=TwP.hg h1 h4 (by omega) (q:=q) (by omega);exact⟨ts,g1,g2,g3,fun b hb=>hb.2⟩
structure GP (w:World) (x:PV) (q lo hi:Nat):Prop where
 ex:∃ ts,PG w x q ts lo hi (Bw lo hi)
 le:hi≤w.heap.size
 lh:lo≤hi
theorem GP.below {w w':World} {x:PV} {q lo hi:Nat} (h:GP w x q lo hi) (hb:Below w.heap.size w w'):GP w' x q lo hi:=by
 obtain⟨ts,g⟩:=h.ex;exact⟨⟨ts,g.below hb h.le⟩,Nat.le_trans h.le hb.size,h.lh⟩
theorem GP.keepB {base:Nat} {w w':World} {x:PV} {q lo hi:Nat} (h:GP w x q lo hi) (hk:KeepB base w w') (hh:hi≤base):GP w' x q lo hi:=by
 obtain⟨ts,g⟩:=h.ex;exact⟨⟨ts,g.keepB hk hh⟩,Nat.le_trans h.le hk.bel.size,h.lh⟩
structure GF (w:World) (x:FV) (q lo hi:Nat):Prop where
 ex:FG w x q lo hi
 le:hi≤w.heap.size
 lh:lo≤hi
theorem GF.below {w w':World} {x:FV} {q lo hi:Nat} (h:GF w x q lo hi) (hb:Below w.heap.size w w'):GF w' x q lo hi:=⟨h.ex.below hb h.le,Nat.le_trans h.le hb.size,h.lh⟩
theorem GF.keepB {base:Nat} {w w':World} {x:FV} {q lo hi:Nat} (h:GF w x q lo hi) (hk:KeepB base w w') (hh:hi≤base):GF w' x q lo hi:=⟨h.ex.keepB hk hh,Nat.le_trans h.le hk.bel.size,h.lh⟩
theorem DP.gp {w:World} {lo:Nat} {x:PV} {P:List Tm} (h:DP w lo x P) (hl:∀ t∈P,LQ t.2 900000) (hn:P.length≤10000) (hw:lo≤w.heap.size) {q:Nat} (hq:q+2*P.length≤30000):GP w x q lo w.heap.size:=⟨DP.pg h hl hn hq,Nat.le_refl _,hw⟩
theorem Tw2.gp {w0 w:World} {lo:Nat} {y x:PV} (h:Tw2 w0 w lo y x) (hn:x.n≤10000) (hw:lo≤w.heap.size) {q:Nat} (hq:q+2*x.n≤30000):GP w y q lo w.heap.size:=⟨Tw2.pg h hn hq,Nat.le_refl _,hw⟩
theorem TOwn.gf {w:World} {lo:Nat} {t:FV} (h:TOwn w lo t) (hw:lo≤w.heap.size) {q:Nat} (hq:q+1≤30000):GF w t q lo w.heap.size:=⟨h.fg hq,Nat.le_refl _,hw⟩
theorem BG.polyP {w:World} {b base q lo hi l m:Nat} (h:BG w b base q lo hi l m) {x:PV} {lo' hi':Nat} (g:GP w x q lo' hi') (h2:hi≤lo') (h4:hi'≤base) (hq:q+2*x.n≤29990) :
  Calls Tryz.prog 23 #[.pointer (some ⟨b,0,none⟩),x.v] w (BGs b base (q+2*x.n+1) lo hi' (l+2*x.n) (m+1) w):=by
 obtain⟨ts,g1⟩:=g.ex;exact h.poly g1 h2 g.lh h4 hq
theorem BG.fracP {w:World} {b base q lo hi l m:Nat} (h:BG w b base q lo hi l m) {x:FV} {lo' hi':Nat} (g:GF w x q lo' hi') (h2:hi≤lo') (h4:hi'≤base) (hq:q+2≤29990) :
  Calls Tryz.prog 24 #[.pointer (some ⟨b,0,none⟩),x.v] w (BGs b base (q+2) lo hi' (l+2) m w):=h.frac g.ex h2 g.lh h4 hq
theorem BG.apartA {w:World} {b base q lo hi l m:Nat} (h:BG w b base q lo hi l m) (h1:0<m) (hq:q≤30000) :
  Calls Tryz.prog 25 #[.pointer (some ⟨b,0,none⟩)] w fun e w'=>e=.returned (.bool true)∧Below lo w w':=by
 by_cases h0:0<l
 ·exact h.apart h0 h1 hq
 ·classical
  obtain⟨L,M,rfl,rfl,hs,hg⟩:=h.ex;have hl:=h.lq;obtain rfl:L=[]:=List.length_eq_zero_iff.1 (by omega)
  have hT:∀ x:HL,∃ o,x∈M→OwnT w lo x.a x.n x.c o:=fun x=>by
   by_cases hx:x∈M
   ·obtain⟨o,ho⟩:=(hg.row x hx).1;exact⟨o,fun _=>ho⟩
   ·exact⟨fun _=>.bool true,fun h=>absurd h hx⟩
  obtain⟨Ot,hT⟩:=Classical.axiomOfChoice hT
  exact hs.apart0 h1 (by omega) (fun x hx=>hg.nq x (List.mem_append_right _ hx)) Ot hT (fun x hx=>(hg.row x hx).2) (fun x hx p hp=>by
   have h9:=hg.at_ x (List.mem_append_right _ hx) p hp
   exact⟨h9.1,Nat.lt_of_lt_of_le h9.2 h.h2⟩) (Nat.le_trans h.h1 h.h2) hg.am
end Go.Proofs.YtgkkbkoiaccmfaaGreatDoor.Book
namespace Go.Proofs.YtgkkbkoiaccmfaaGreatDoor.Pol
open Go.RowKit Go.Sort Go.Proofs.YtgkkbkoiaccmfaaGreatDoor.Limb Go.Proofs.YtgkkbkoiaccmfaaGreatDoor.Book
theorem nf1_lq {q:Rat} {k:Nat} (h:LQ q k):∀ t∈nf [(Mo.one,q)],LQ t.2 k:=fun t ht=>by
 by_cases hz:q=0
 ·rw[hz,nf_zeroQ] at ht;cases ht
 ·rw[nf_oneQ hz] at ht;rw[List.mem_singleton.1 ht];exact h
theorem nf1_len (q:Rat):(nf [(Mo.one,q)]).length≤1:=by
 by_cases hz:q=0
 ·rw[hz,nf_zeroQ];exact Nat.zero_le _
 ·rw[nf_oneQ hz];exact Nat.le_refl _
theorem letP_lq (i:Nat):∀ t∈letP i,LQ t.2 3:=fun t ht=>by
 rw[List.mem_singleton.1 ht];exact(PC.letter i).b.lq _ (List.mem_singleton.2 rfl)
theorem both_letter (n:Int):∃ (P:List Tm) (c:Int),(∀ t∈P,LQ t.2 3)∧P.length≤1 ∧
  (∀ w,Calls Tryz.prog 15 #[.int .i64 n] w fun e w'=>∃ z:PV,e=.returned (.tuple #[z.v,.int .i64 c])∧DP w' w.heap.size z P∧Below w.heap.size w w') ∧
  ∀ w,Calls Tryz.prog 17 #[.int .i64 n] w fun e w'=>∃ z:PV,e=.returned (.tuple #[z.v,.int .i64 c])∧EP w' w.heap.size z P∧Below w.heap.size w w':=by
 by_cases h:0≤n∧n<4
 ·obtain⟨i,rfl⟩:∃ i:Nat,n=i:=⟨n.toNat,by omega⟩;exact⟨letP i,0,letP_lq i,Nat.le_refl _,letter_k i (by omega),rletter_k i (by omega)⟩
 ·have h1:n<0∨4≤n:=by omega
  exact⟨[],1,(fun t ht=>by cases ht),Nat.zero_le _,fun w=>(letter_out n h1 w).mono fun e w' ⟨he,hb⟩=>⟨⟨none,0,0⟩,he,DP.none _ _,hb⟩,fun w=>(rletter_out n h1 w).mono fun e w' ⟨he,hb⟩=>⟨⟨none,0,0⟩,he,EP.nil,hb⟩⟩
theorem polysMakes_law (x1:PV) (L1:List TO) (x2:FV) (n:Int) (w:World) (h1:RawQ w x1 L1) (hc:AQ w x2) (_hn1:-9223372036854775808≤n) (_hn2:n≤9223372036854775807) :
  Calls Tryz.prog 3 #[.slice x1.a x1.n x1.c,.agg #[.bool x2.t.s,.slice x2.t.a x2.t.n x2.t.c,.bool x2.l.s,.slice x2.l.a x2.l.n x2.l.c],.int .i64 n] w fun e w'=>e=.returned (.bool true)∧Below w.heap.size w w':=by
 have KG:=qh (Below.refl w.heap.size w);have N1:=qh h1;obtain⟨q2,hq2⟩:=hc.af;have NC:=qh hq2;have HT2:=qh hc.t;have HL2:=qh hc.l;obtain⟨PL,cl,hpl,hpn,hl1,hl2⟩:=both_letter n;have LPQ:=qh hpl;have LPN:=qh hpn;have LT1:=qh hl1;have LT2:=qh hl2;clear h1 hc hq2 hpl hpn hl1 hl2 _hn1 _hn2;go_enter Tryz.func3,Tryz.ntmps3
 go_upto_region 1 with (fail)
 obtain⟨w1,hV⟩:∃ V,V=w.alloc (.cells #[.bool x2.t.s,.slice x2.t.a x2.t.n x2.t.c,.bool x2.l.s,.slice x2.l.a x2.l.n x2.l.c] 28):=⟨_,rfl⟩
 have hb:Below w.heap.size w w1:=by rw[hV];exact(Below.refl _ _).alloc (Nat.le_refl _) _
 have BX1:=qh (show Bxs w1 w.heap.size 28 [.bool x2.t.s,.slice x2.t.a x2.t.n x2.t.c,.bool x2.l.s,.slice x2.l.a x2.l.n x2.l.c] by rw[hV];exact Bxs.new w 28 [.bool x2.t.s,.slice x2.t.a x2.t.n x2.t.c,.bool x2.l.s,.slice x2.l.a x2.l.n x2.l.c]);obtain⟨ABX1,hA⟩:∃ A,A=w.heap.size:=⟨_,rfl⟩;rw[← hV,← hA];rw[← hA] at BX1;have HBX1:=qh hA;clear hA hV;have KG:=qk KG hb;clear hb;go_wp2_with fail
 obtain⟨w2,hV⟩:∃ V,V=w1.alloc (.cells #[.slice x1.a x1.n x1.c] 23):=⟨_,rfl⟩
 have hb:Below w1.heap.size w1 w2:=by rw[hV];exact(Below.refl _ _).alloc (Nat.le_refl _) _
 have BX4:=qh (show Bxs w2 w1.heap.size 23 [.slice x1.a x1.n x1.c] by rw[hV];exact Bxs.new w1 23 [.slice x1.a x1.n x1.c]);rw[← hV];have KG:=qk KG hb;have BX1:=qh (BX1.out.below hb BX1.out.lt);clear hV hb;have CT:=qh (show Calls Tryz.prog 10 #[.int .i64 40,.slice (some ⟨w1.heap.size,0,none⟩) 1 1] w2 _ from great1P (m:=40) BX4.out (N1.out.below KG.out) (by decide));with_reducible refine CT.out.mono ?_
 rintro e w3 ⟨gb,rfl,hn,hb⟩;clear CT BX4;have KG:=qk KG hb;have BX1:=qh (BX1.out.below hb BX1.out.lt);clear hb
 rcases Bool.eq_false_or_eq_true gb with rfl | rfl
 ·clear hn;go_wp2_with fail
  go_ret;exact⟨rfl,KG.out⟩
 have GX:=qh (hn rfl);clear hn;have cBX10:=BX1.out.cell (i:=0) rfl;have cBX11:=BX1.out.cell (i:=1) rfl;have cBX12:=BX1.out.cell (i:=2) rfl;have cBX13:=BX1.out.cell (i:=3) rfl;have CT:=qh (show Calls Tryz.prog 11 #[.agg #[.bool x2.t.s,.slice x2.t.a x2.t.n x2.t.c,.bool x2.l.s,.slice x2.l.a x2.l.n x2.l.c]] w3 _ from frac_sizeX x2 w3 HT2.out HL2.out);go_wp2_with fail
 with_reducible refine CT.out.mono ?_
 rintro e w4 ⟨z,rfl,hz,hb⟩;clear CT cBX10 cBX11 cBX12 cBX13;have KG:=qk KG hb;have BX1:=qh (BX1.out.below hb BX1.out.lt);clear hb;have HZ:=qh hz
 by_cases hz6:60<z
 ·have hz7:z>60:=hz6;go_wp2_with fail
  go_ret;exact⟨rfl,KG.out⟩
 have hz7:¬(z>60):=hz6;have LF2:=qh (show LF x2 60 from by have h:=hz.is (by omega);have:=hz.lo;exact⟨by have:=h.1;omega,by have:=h.2;omega⟩);have LQ2:=qh (NC.out.len LF2.out);clear hz HT2 HL2;obtain⟨P,ok,hsa⟩:=sa_of (E:=65535) N1.out GX.out (fun e he=>N1.out.2.2.2.2 e he) (by decide);have HXN:=qh (show x1.n≤40 from by have h1:=GX.out.1;have h2:=N1.out.2.1;rw[List.length_map] at h1;omega);have HPC:=qh hsa.b;have HA:=qh (hsa.below KG.out);clear hsa N1 GX;obtain⟨o1,o2,r1,r2,hr3⟩:=(NC.out.below KG.out).ex;have HR1:=qh r1;have HR2:=qh r2;have NC:=qh (NC.out.below KG.out);clear r1 r2 hr3;have W0:=qh (Below.refl w4.heap.size w4);have IG1:=qh (KG.out.size);have cBX10:=BX1.out.cell (i:=0) rfl;have cBX11:=BX1.out.cell (i:=1) rfl;have cBX12:=BX1.out.cell (i:=2) rfl;have cBX13:=BX1.out.cell (i:=3) rfl;have CT:=qh (show Calls Tryz.prog 12 #[.slice x1.a x1.n x1.c] w4 _ from twin_a x1 P w4 HA.out.ap (HPC.out.lq (by decide)) (by have:=HXN.out;omega));go_wp2_with fail
 with_reducible refine CT.out.mono ?_
 rintro e w5 ⟨y1,rfl,hyn,hya,htw,hb⟩;clear CT cBX10 cBX11 cBX12 cBX13;have KG:=qk KG hb;have BX1:=qh (BX1.out.below hb BX1.out.lt);have HA:=qh (HA.out.below hb);have HR1:=qh (HR1.out.below hb);have HR2:=qh (HR2.out.below hb);have NC:=qh (NC.out.below hb);have W0:=qk W0 hb;have HYN:=qh hyn;have HY:=qh hya;have HTW:=qh htw;clear hyn hya;have G1:=qh (show GP w5 y1 (0) w4.heap.size w5.heap.size from Tw2.gp htw (by have:=HXN.out;omega) hb.size (by have:=HXN.out;omega));clear hb;clear htw;have HR1o:=HR1;have HR2o:=HR2;have NCo:=NC;have IG2:=qh (G1.out.le);have cBX10:=BX1.out.cell (i:=0) rfl;have cBX11:=BX1.out.cell (i:=1) rfl;have cBX12:=BX1.out.cell (i:=2) rfl;have cBX13:=BX1.out.cell (i:=3) rfl;have CT:=qh (show Calls Tryz.prog 13 #[.agg #[.bool x2.t.s,.slice x2.t.a x2.t.n x2.t.c,.bool x2.l.s,.slice x2.l.a x2.l.n x2.l.c]] w5 _ from twinF_any x2 o1 o2 w5 HR1.out (by have:=LF2.out.1;omega) HR2.out (by have:=LF2.out.2;omega));go_wp2_with fail
 with_reducible refine CT.out.mono ?_
 rintro e w6 ⟨y2,rfl,htf,hb⟩;clear CT cBX10 cBX11 cBX12 cBX13;have KG:=qk KG hb;have BX1:=qh (BX1.out.below hb BX1.out.lt);have HA:=qh (HA.out.below hb);have HR1:=qh (HR1.out.below hb);have HR2:=qh (HR2.out.below hb);have NC:=qh (NC.out.below hb);have W0:=qk W0 hb;have G1:=qh (G1.out.below hb);have HY:=qh (HY.out.below hb);have HTW:=qh (HTW.out.below hb);have HC:=qh (htf.a (w0:=w5) HR1o.out HR2o.out NCo.out);have HTF:=qh htf;have LY2:=qh (show LF y2 60 from⟨by rw[htf.top.n];exact LF2.out.1,by rw[htf.low.n];exact LF2.out.2⟩);clear HR1o HR2o NCo;have G2:=qh (show GF w6 y2 (0+2*y1.n+1) w5.heap.size w6.heap.size from TOwn.gf (TwF.town htf (by have:=LF2.out.1;omega) (by have:=LF2.out.2;omega)) hb.size (by have:=HXN.out;have:=HYN.out;omega));clear hb;clear htf;have cBX10:=BX1.out.cell (i:=0) rfl;have cBX11:=BX1.out.cell (i:=1) rfl;have cBX12:=BX1.out.cell (i:=2) rfl;have cBX13:=BX1.out.cell (i:=3) rfl
 go_upto_region 5 with (fail)
 obtain⟨w7,hV⟩:∃ V,V=w6.alloc (.cells #[.bool y2.t.s,.slice y2.t.a y2.t.n y2.t.c,.bool y2.l.s,.slice y2.l.a y2.l.n y2.l.c] 28):=⟨_,rfl⟩
 have hb:Below w6.heap.size w6 w7:=by rw[hV];exact(Below.refl _ _).alloc (Nat.le_refl _) _
 have BX8:=qh (show Bxs w7 w6.heap.size 28 [.bool y2.t.s,.slice y2.t.a y2.t.n y2.t.c,.bool y2.l.s,.slice y2.l.a y2.l.n y2.l.c] by rw[hV];exact Bxs.new w6 28 [.bool y2.t.s,.slice y2.t.a y2.t.n y2.t.c,.bool y2.l.s,.slice y2.l.a y2.l.n y2.l.c]);obtain⟨ABX8,hA⟩:∃ A,A=w6.heap.size:=⟨_,rfl⟩;rw[← hV,← hA];rw[← hA] at BX8;have HBX8:=qh hA;clear hA hV cBX10 cBX11 cBX12 cBX13;have KG:=qk KG hb;have BX1:=qh (BX1.out.below hb BX1.out.lt);have HA:=qh (HA.out.below hb);have HR1:=qh (HR1.out.below hb);have HR2:=qh (HR2.out.below hb);have NC:=qh (NC.out.below hb);have W0:=qk W0 hb;have G1:=qh (G1.out.below hb);have HY:=qh (HY.out.below hb);have HTW:=qh (HTW.out.below hb);have G2:=qh (G2.out.below hb);have HC:=qh (HC.out.below hb);have HTF:=qh (HTF.out.below hb);clear hb;have NFQ:=qh (nf1_lq (LQ2.out.up (show 60+1≤900000 by decide)));have NFN:=qh (nf1_len q2);have IG3:=qh (G2.out.le);have cBX10:=BX1.out.cell (i:=0) rfl;have cBX11:=BX1.out.cell (i:=1) rfl;have cBX12:=BX1.out.cell (i:=2) rfl;have cBX13:=BX1.out.cell (i:=3) rfl;have cBX80:=BX8.out.cell (i:=0) rfl;have cBX81:=BX8.out.cell (i:=1) rfl;have cBX82:=BX8.out.cell (i:=2) rfl;have cBX83:=BX8.out.cell (i:=3) rfl;have CT:=qh (show Calls Tryz.prog 14 #[.agg #[.bool y2.t.s,.slice y2.t.a y2.t.n y2.t.c,.bool y2.l.s,.slice y2.l.a y2.l.n y2.l.c]] w7 _ from of_num y2 q2 w7 HC.out (LY2.out.up (by decide)) (LQ2.out.up (by decide)));go_wp2_with fail
 with_reducible refine CT.out.mono ?_
 rintro e w8 ⟨z1,rfl,hz1,hb⟩;clear CT cBX10 cBX11 cBX12 cBX13 cBX80 cBX81 cBX82 cBX83;have KG:=qk KG hb;have BX1:=qh (BX1.out.below hb BX1.out.lt);have HA:=qh (HA.out.below hb);have HR1:=qh (HR1.out.below hb);have HR2:=qh (HR2.out.below hb);have NC:=qh (NC.out.below hb);have W0:=qk W0 hb;have G1:=qh (G1.out.below hb);have HY:=qh (HY.out.below hb);have HTW:=qh (HTW.out.below hb);have G2:=qh (G2.out.below hb);have HC:=qh (HC.out.below hb);have HTF:=qh (HTF.out.below hb);have BX8:=qh (BX8.out.below hb BX8.out.lt);have D1:=qh hz1;have HZ1:=qh hz1.k.len;have G3:=qh (show GP w8 z1 (0+2*y1.n+1+2) w7.heap.size w8.heap.size from DP.gp hz1 NFQ.out (by have:=NFN.out;omega) hb.size (by have:=HXN.out;have:=HYN.out;have:=NFN.out;omega));clear hb;clear hz1;have IG4:=qh (G3.out.le);have cBX10:=BX1.out.cell (i:=0) rfl;have cBX11:=BX1.out.cell (i:=1) rfl;have cBX12:=BX1.out.cell (i:=2) rfl;have cBX13:=BX1.out.cell (i:=3) rfl;have cBX80:=BX8.out.cell (i:=0) rfl;have cBX81:=BX8.out.cell (i:=1) rfl;have cBX82:=BX8.out.cell (i:=2) rfl;have cBX83:=BX8.out.cell (i:=3) rfl;have CT:=qh (show Calls Tryz.prog 15 #[.int .i64 n] w8 _ from LT1.out w8);go_wp2_with fail
 with_reducible refine CT.out.mono ?_
 rintro e w9 ⟨z2,rfl,hz2,hb⟩;clear CT cBX10 cBX11 cBX12 cBX13 cBX80 cBX81 cBX82 cBX83;have KG:=qk KG hb;have BX1:=qh (BX1.out.below hb BX1.out.lt);have HA:=qh (HA.out.below hb);have HR1:=qh (HR1.out.below hb);have HR2:=qh (HR2.out.below hb);have NC:=qh (NC.out.below hb);have W0:=qk W0 hb;have G1:=qh (G1.out.below hb);have HY:=qh (HY.out.below hb);have HTW:=qh (HTW.out.below hb);have G2:=qh (G2.out.below hb);have HC:=qh (HC.out.below hb);have HTF:=qh (HTF.out.below hb);have BX8:=qh (BX8.out.below hb BX8.out.lt);have G3:=qh (G3.out.below hb);have D1:=qh (D1.out.below hb);have D2:=qh hz2;have HZ2:=qh hz2.k.len;have G4:=qh (show GP w9 z2 (0+2*y1.n+1+2+2*z1.n+1) w8.heap.size w9.heap.size from DP.gp hz2 (fun t ht=>(LPQ.out t ht).up (by decide)) (by have:=LPN.out;omega) hb.size (by have:=HXN.out;have:=HYN.out;have:=NFN.out;have:=HZ1.out;have:=LPN.out;omega));clear hb;clear hz2;have SCQ:=qh ((HPC.out.scale LQ2.out).lq (m:=900000) (by decide));have SCN:=qh (HPC.out.scale LQ2.out).b.len;have IG5:=qh (G4.out.le);have cBX10:=BX1.out.cell (i:=0) rfl;have cBX11:=BX1.out.cell (i:=1) rfl;have cBX12:=BX1.out.cell (i:=2) rfl;have cBX13:=BX1.out.cell (i:=3) rfl;have cBX80:=BX8.out.cell (i:=0) rfl;have cBX81:=BX8.out.cell (i:=1) rfl;have cBX82:=BX8.out.cell (i:=2) rfl;have cBX83:=BX8.out.cell (i:=3) rfl;have CT:=qh (show Calls Tryz.prog 16 #[.slice y1.a y1.n y1.c,.agg #[.bool y2.t.s,.slice y2.t.a y2.t.n y2.t.c,.bool y2.l.s,.slice y2.l.a y2.l.n y2.l.c]] w9 _ from scale_any y1 P y2 q2 4 40 61 w9 HY.out HPC.out.b (by have:=HXN.out;have:=HYN.out;omega) HC.out (LY2.out.up (by decide)) LQ2.out (by decide) (by decide))
 go_wp2_with fail
 with_reducible refine CT.out.mono ?_
 rintro e w10 ⟨z3,rfl,hz3,hb⟩;clear CT cBX10 cBX11 cBX12 cBX13 cBX80 cBX81 cBX82 cBX83;have KG:=qk KG hb;have BX1:=qh (BX1.out.below hb BX1.out.lt);have HA:=qh (HA.out.below hb);have HR1:=qh (HR1.out.below hb);have HR2:=qh (HR2.out.below hb);have NC:=qh (NC.out.below hb);have W0:=qk W0 hb;have G1:=qh (G1.out.below hb);have HY:=qh (HY.out.below hb);have HTW:=qh (HTW.out.below hb);have G2:=qh (G2.out.below hb);have HC:=qh (HC.out.below hb);have HTF:=qh (HTF.out.below hb);have BX8:=qh (BX8.out.below hb BX8.out.lt);have G3:=qh (G3.out.below hb);have D1:=qh (D1.out.below hb);have G4:=qh (G4.out.below hb);have D2:=qh (D2.out.below hb);have D3:=qh hz3;have HZ3:=qh hz3.k.len;have G5:=qh (show GP w10 z3 (0+2*y1.n+1+2+2*z1.n+1+2*z2.n+1) w9.heap.size w10.heap.size from DP.gp hz3 SCQ.out (by have:=SCN.out;omega) hb.size (by have:=HXN.out;have:=HYN.out;have:=NFN.out;have:=HZ1.out;have:=LPN.out;have:=HZ2.out;have:=SCN.out;omega));clear hb;clear hz3;have cBX10:=BX1.out.cell (i:=0) rfl;have cBX11:=BX1.out.cell (i:=1) rfl;have cBX12:=BX1.out.cell (i:=2) rfl;have cBX13:=BX1.out.cell (i:=3) rfl;have cBX80:=BX8.out.cell (i:=0) rfl;have cBX81:=BX8.out.cell (i:=1) rfl;have cBX82:=BX8.out.cell (i:=2) rfl;have cBX83:=BX8.out.cell (i:=3) rfl;have CT:=qh (show Calls Tryz.prog 17 #[.int .i64 n] w10 _ from LT2.out w10);go_wp2_with fail
 with_reducible refine CT.out.mono ?_
 rintro e w11 ⟨u2,rfl,hu2,hb⟩;clear CT cBX10 cBX11 cBX12 cBX13 cBX80 cBX81 cBX82 cBX83;have KG:=qk KG hb;have BX1:=qh (BX1.out.below hb BX1.out.lt);have HA:=qh (HA.out.below hb);have HR1:=qh (HR1.out.below hb);have HR2:=qh (HR2.out.below hb);have NC:=qh (NC.out.below hb);have W0:=qk W0 hb;have G1:=qh (G1.out.below hb);have HY:=qh (HY.out.below hb);have HTW:=qh (HTW.out.below hb);have G2:=qh (G2.out.below hb);have HC:=qh (HC.out.below hb);have HTF:=qh (HTF.out.below hb);have BX8:=qh (BX8.out.below hb BX8.out.lt);have G3:=qh (G3.out.below hb);have D1:=qh (D1.out.below hb);have G4:=qh (G4.out.below hb);have D2:=qh (D2.out.below hb);have G5:=qh (G5.out.below hb);have D3:=qh (D3.out.below hb);have E2:=qh hu2.k;clear hu2;clear hb;have cBX10:=BX1.out.cell (i:=0) rfl;have cBX11:=BX1.out.cell (i:=1) rfl;have cBX12:=BX1.out.cell (i:=2) rfl;have cBX13:=BX1.out.cell (i:=3) rfl;have cBX80:=BX8.out.cell (i:=0) rfl;have cBX81:=BX8.out.cell (i:=1) rfl;have cBX82:=BX8.out.cell (i:=2) rfl;have cBX83:=BX8.out.cell (i:=3) rfl;have CT:=qh (show Calls Tryz.prog 19 #[.agg #[.bool x2.t.s,.slice x2.t.a x2.t.n x2.t.c,.bool x2.l.s,.slice x2.l.a x2.l.n x2.l.c]] w11 _ from rofP x2 q2 w11 NC.out (LF2.out.up (by decide)) (LQ2.out.up (by decide)));go_wp2_with fail
 with_reducible refine CT.out.mono ?_
 rintro e w12 ⟨u1,rfl,hu1,hb⟩;clear CT cBX10 cBX11 cBX12 cBX13 cBX80 cBX81 cBX82 cBX83;have KG:=qk KG hb;have BX1:=qh (BX1.out.below hb BX1.out.lt);have HA:=qh (HA.out.below hb);have HR1:=qh (HR1.out.below hb);have HR2:=qh (HR2.out.below hb);have NC:=qh (NC.out.below hb);have W0:=qk W0 hb;have G1:=qh (G1.out.below hb);have HY:=qh (HY.out.below hb);have HTW:=qh (HTW.out.below hb);have G2:=qh (G2.out.below hb);have HC:=qh (HC.out.below hb);have HTF:=qh (HTF.out.below hb);have BX8:=qh (BX8.out.below hb BX8.out.lt);have G3:=qh (G3.out.below hb);have D1:=qh (D1.out.below hb);have G4:=qh (G4.out.below hb);have D2:=qh (D2.out.below hb);have G5:=qh (G5.out.below hb);have D3:=qh (D3.out.below hb);have E2:=qh (E2.out.below hb);have E1:=qh hu1.k;clear hu1;clear hb;have cBX10:=BX1.out.cell (i:=0) rfl;have cBX11:=BX1.out.cell (i:=1) rfl;have cBX12:=BX1.out.cell (i:=2) rfl;have cBX13:=BX1.out.cell (i:=3) rfl;have cBX80:=BX8.out.cell (i:=0) rfl;have cBX81:=BX8.out.cell (i:=1) rfl;have cBX82:=BX8.out.cell (i:=2) rfl;have cBX83:=BX8.out.cell (i:=3) rfl;have CT:=qh (show Calls Tryz.prog 18 #[.slice z1.a z1.n z1.c,.slice u1.a u1.n u1.c] w12 _ from same_k z1 u1 _ w12 D1.out.k E1.out NFQ.out (by have:=NFN.out;omega));go_wp2_with fail
 with_reducible refine CT.out.mono ?_
 rintro e w13 ⟨rfl,hb⟩;clear CT cBX10 cBX11 cBX12 cBX13 cBX80 cBX81 cBX82 cBX83;have KG:=qk KG hb;have BX1:=qh (BX1.out.below hb BX1.out.lt);have HA:=qh (HA.out.below hb);have HR1:=qh (HR1.out.below hb);have HR2:=qh (HR2.out.below hb);have NC:=qh (NC.out.below hb);have W0:=qk W0 hb;have G1:=qh (G1.out.below hb);have HY:=qh (HY.out.below hb);have HTW:=qh (HTW.out.below hb);have G2:=qh (G2.out.below hb);have HC:=qh (HC.out.below hb);have HTF:=qh (HTF.out.below hb);have BX8:=qh (BX8.out.below hb BX8.out.lt);have G3:=qh (G3.out.below hb);have D1:=qh (D1.out.below hb);have G4:=qh (G4.out.below hb);have D2:=qh (D2.out.below hb);have G5:=qh (G5.out.below hb);have D3:=qh (D3.out.below hb);have E2:=qh (E2.out.below hb);have E1:=qh (E1.out.below hb);clear hb;have cBX10:=BX1.out.cell (i:=0) rfl;have cBX11:=BX1.out.cell (i:=1) rfl;have cBX12:=BX1.out.cell (i:=2) rfl;have cBX13:=BX1.out.cell (i:=3) rfl;have cBX80:=BX8.out.cell (i:=0) rfl;have cBX81:=BX8.out.cell (i:=1) rfl;have cBX82:=BX8.out.cell (i:=2) rfl;have cBX83:=BX8.out.cell (i:=3) rfl;have CT:=qh (show Calls Tryz.prog 18 #[.slice z2.a z2.n z2.c,.slice u2.a u2.n u2.c] w13 _ from same_k z2 u2 _ w13 D2.out.k E2.out (fun t ht=>(LPQ.out t ht).up (by decide)) (by have:=LPN.out;omega));go_wp2_with fail
 with_reducible refine CT.out.mono ?_
 rintro e w14 ⟨rfl,hb⟩;clear CT cBX10 cBX11 cBX12 cBX13 cBX80 cBX81 cBX82 cBX83;have KG:=qk KG hb;have BX1:=qh (BX1.out.below hb BX1.out.lt);have HA:=qh (HA.out.below hb);have HR1:=qh (HR1.out.below hb);have HR2:=qh (HR2.out.below hb);have NC:=qh (NC.out.below hb);have W0:=qk W0 hb;have G1:=qh (G1.out.below hb);have HY:=qh (HY.out.below hb);have HTW:=qh (HTW.out.below hb);have G2:=qh (G2.out.below hb);have HC:=qh (HC.out.below hb);have HTF:=qh (HTF.out.below hb);have BX8:=qh (BX8.out.below hb BX8.out.lt);have G3:=qh (G3.out.below hb);have D1:=qh (D1.out.below hb);have G4:=qh (G4.out.below hb);have D2:=qh (D2.out.below hb);have G5:=qh (G5.out.below hb);have D3:=qh (D3.out.below hb);have E2:=qh (E2.out.below hb);have E1:=qh (E1.out.below hb);clear hb;have cBX10:=BX1.out.cell (i:=0) rfl;have cBX11:=BX1.out.cell (i:=1) rfl;have cBX12:=BX1.out.cell (i:=2) rfl;have cBX13:=BX1.out.cell (i:=3) rfl;have cBX80:=BX8.out.cell (i:=0) rfl;have cBX81:=BX8.out.cell (i:=1) rfl;have cBX82:=BX8.out.cell (i:=2) rfl;have cBX83:=BX8.out.cell (i:=3) rfl;have CT:=qh (show Calls Tryz.prog 20 #[.slice x1.a x1.n x1.c,.agg #[.bool x2.t.s,.slice x2.t.a x2.t.n x2.t.c,.bool x2.l.s,.slice x2.l.a x2.l.n x2.l.c]] w14 _ from rscale_any x1 P x2 q2 w14 HA.out.ap (HPC.out.lq (by decide)) (by have:=HXN.out;omega) NC.out (LF2.out.up (by decide)) (LQ2.out.up (by decide)));go_wp2_with fail
 with_reducible refine CT.out.mono ?_
 rintro e w15 ⟨u3,rfl,hu3,hb⟩;clear CT cBX10 cBX11 cBX12 cBX13 cBX80 cBX81 cBX82 cBX83;have KG:=qk KG hb;have BX1:=qh (BX1.out.below hb BX1.out.lt);have HA:=qh (HA.out.below hb);have HR1:=qh (HR1.out.below hb);have HR2:=qh (HR2.out.below hb);have NC:=qh (NC.out.below hb);have W0:=qk W0 hb;have G1:=qh (G1.out.below hb);have HY:=qh (HY.out.below hb);have HTW:=qh (HTW.out.below hb);have G2:=qh (G2.out.below hb);have HC:=qh (HC.out.below hb);have HTF:=qh (HTF.out.below hb);have BX8:=qh (BX8.out.below hb BX8.out.lt);have G3:=qh (G3.out.below hb);have D1:=qh (D1.out.below hb);have G4:=qh (G4.out.below hb);have D2:=qh (D2.out.below hb);have G5:=qh (G5.out.below hb);have D3:=qh (D3.out.below hb);have E2:=qh (E2.out.below hb);have E1:=qh (E1.out.below hb);have E3:=qh hu3.k;clear hu3;clear hb;have cBX10:=BX1.out.cell (i:=0) rfl;have cBX11:=BX1.out.cell (i:=1) rfl;have cBX12:=BX1.out.cell (i:=2) rfl;have cBX13:=BX1.out.cell (i:=3) rfl;have cBX80:=BX8.out.cell (i:=0) rfl;have cBX81:=BX8.out.cell (i:=1) rfl;have cBX82:=BX8.out.cell (i:=2) rfl;have cBX83:=BX8.out.cell (i:=3) rfl;have CT:=qh (show Calls Tryz.prog 18 #[.slice z3.a z3.n z3.c,.slice u3.a u3.n u3.c] w15 _ from same_k z3 u3 _ w15 D3.out.k E3.out SCQ.out (by have:=SCN.out;omega));go_wp2_with fail
 with_reducible refine CT.out.mono ?_
 rintro e w16 ⟨rfl,hb⟩;clear CT cBX10 cBX11 cBX12 cBX13 cBX80 cBX81 cBX82 cBX83;have KG:=qk KG hb;have BX1:=qh (BX1.out.below hb BX1.out.lt);have HA:=qh (HA.out.below hb);have HR1:=qh (HR1.out.below hb);have HR2:=qh (HR2.out.below hb);have NC:=qh (NC.out.below hb);have W0:=qk W0 hb;have G1:=qh (G1.out.below hb);have HY:=qh (HY.out.below hb);have HTW:=qh (HTW.out.below hb);have G2:=qh (G2.out.below hb);have HC:=qh (HC.out.below hb);have HTF:=qh (HTF.out.below hb);have BX8:=qh (BX8.out.below hb BX8.out.lt);have G3:=qh (G3.out.below hb);have D1:=qh (D1.out.below hb);have G4:=qh (G4.out.below hb);have D2:=qh (D2.out.below hb);have G5:=qh (G5.out.below hb);have D3:=qh (D3.out.below hb);have E2:=qh (E2.out.below hb);have E1:=qh (E1.out.below hb);have E3:=qh (E3.out.below hb);clear hb;have cBX10:=BX1.out.cell (i:=0) rfl;have cBX11:=BX1.out.cell (i:=1) rfl;have cBX12:=BX1.out.cell (i:=2) rfl;have cBX13:=BX1.out.cell (i:=3) rfl;have cBX80:=BX8.out.cell (i:=0) rfl;have cBX81:=BX8.out.cell (i:=1) rfl;have cBX82:=BX8.out.cell (i:=2) rfl;have cBX83:=BX8.out.cell (i:=3) rfl;have CT:=qh (show Calls Tryz.prog 21 #[.slice y1.a y1.n y1.c,.slice x1.a x1.n x1.c] w16 _ from HTW.out.left W0.out (by have:=HXN.out;omega));go_wp2_with fail
 with_reducible refine CT.out.mono ?_
 rintro e w17 ⟨rfl,hb⟩;clear CT cBX10 cBX11 cBX12 cBX13 cBX80 cBX81 cBX82 cBX83;have KG:=qk KG hb;have BX1:=qh (BX1.out.below hb BX1.out.lt);have HA:=qh (HA.out.below hb);have HR1:=qh (HR1.out.below hb);have HR2:=qh (HR2.out.below hb);have NC:=qh (NC.out.below hb);have W0:=qk W0 hb;have G1:=qh (G1.out.below hb);have HY:=qh (HY.out.below hb);have HTW:=qh (HTW.out.below hb);have G2:=qh (G2.out.below hb);have HC:=qh (HC.out.below hb);have HTF:=qh (HTF.out.below hb);have BX8:=qh (BX8.out.below hb BX8.out.lt);have G3:=qh (G3.out.below hb);have D1:=qh (D1.out.below hb);have G4:=qh (G4.out.below hb);have D2:=qh (D2.out.below hb);have G5:=qh (G5.out.below hb);have D3:=qh (D3.out.below hb);have E2:=qh (E2.out.below hb);have E1:=qh (E1.out.below hb);have E3:=qh (E3.out.below hb);clear hb;have cBX10:=BX1.out.cell (i:=0) rfl;have cBX11:=BX1.out.cell (i:=1) rfl;have cBX12:=BX1.out.cell (i:=2) rfl;have cBX13:=BX1.out.cell (i:=3) rfl;have cBX80:=BX8.out.cell (i:=0) rfl;have cBX81:=BX8.out.cell (i:=1) rfl;have cBX82:=BX8.out.cell (i:=2) rfl;have cBX83:=BX8.out.cell (i:=3) rfl;have CT:=qh (show Calls Tryz.prog 22 #[.agg #[.bool y2.t.s,.slice y2.t.a y2.t.n y2.t.c,.bool y2.l.s,.slice y2.l.a y2.l.n y2.l.c],.agg #[.bool x2.t.s,.slice x2.t.a x2.t.n x2.t.c,.bool x2.l.s,.slice x2.l.a x2.l.n x2.l.c]] w17 _ from leftF_any y2 x2 _ o1 o2 w17 HTF.out HR1.out (by have:=LF2.out.1;omega) HR2.out (by have:=LF2.out.2;omega));go_wp2_with fail
 with_reducible refine CT.out.mono ?_
 rintro e w18 ⟨rfl,hb⟩;clear CT cBX10 cBX11 cBX12 cBX13 cBX80 cBX81 cBX82 cBX83;have KG:=qk KG hb;have BX1:=qh (BX1.out.below hb BX1.out.lt);have HA:=qh (HA.out.below hb);have HR1:=qh (HR1.out.below hb);have HR2:=qh (HR2.out.below hb);have NC:=qh (NC.out.below hb);have W0:=qk W0 hb;have G1:=qh (G1.out.below hb);have HY:=qh (HY.out.below hb);have HTW:=qh (HTW.out.below hb);have G2:=qh (G2.out.below hb);have HC:=qh (HC.out.below hb);have HTF:=qh (HTF.out.below hb);have BX8:=qh (BX8.out.below hb BX8.out.lt);have G3:=qh (G3.out.below hb);have D1:=qh (D1.out.below hb);have G4:=qh (G4.out.below hb);have D2:=qh (D2.out.below hb);have G5:=qh (G5.out.below hb);have D3:=qh (D3.out.below hb);have E2:=qh (E2.out.below hb);have E1:=qh (E1.out.below hb);have E3:=qh (E3.out.below hb);clear hb;clear D1 D2 D3 E1 E2 E3 HTW HTF HC NC HR1 HR2 HA HY W0;have HKW:=qh (show w.heap.size≤w18.heap.size from KG.out.size);have JG1:=qh G1.out.le;have JG2:=qh G2.out.le;have JG3:=qh G3.out.le;have JG4:=qh G4.out.le;have JG5:=qh G5.out.le;have cBX10:=BX1.out.cell (i:=0) rfl;have cBX11:=BX1.out.cell (i:=1) rfl;have cBX12:=BX1.out.cell (i:=2) rfl;have cBX13:=BX1.out.cell (i:=3) rfl;have cBX80:=BX8.out.cell (i:=0) rfl;have cBX81:=BX8.out.cell (i:=1) rfl;have cBX82:=BX8.out.cell (i:=2) rfl;have cBX83:=BX8.out.cell (i:=3) rfl
 go_upto_region 12 with (fail)
 obtain⟨w19,hV⟩:∃ V,V=w18.alloc (.cells book0 53):=⟨_,rfl⟩
 have hb:Below w18.heap.size w18 w19:=by rw[hV];exact(Below.refl _ _).alloc (Nat.le_refl _) _
 have HB:=qh (show BG w19 w18.heap.size w18.heap.size 0 w.heap.size w.heap.size 0 0 by rw[hV];exact BG.new w18 KG.out.size);rw[show w18.alloc (.cells #[.int .i64 0,.slice none 0 0,.slice none 0 0,.slice none 0 0,.slice none 0 0,.slice none 0 0,.slice none 0 0,.slice none 0 0,.slice none 0 0,.slice none 0 0,.slice none 0 0,.slice none 0 0,.slice none 0 0] 53)=w19 from hV.symm];have KG:=qk KG hb;have G1:=qh (G1.out.below hb);have G2:=qh (G2.out.below hb);have BX8:=qh (BX8.out.below hb BX8.out.lt);have G3:=qh (G3.out.below hb);have G4:=qh (G4.out.below hb);have G5:=qh (G5.out.below hb);obtain⟨bs,hbs⟩:∃ b,b=w18.heap.size:=⟨_,rfl⟩;rw[← hbs] at JG1;rw[← hbs] at JG2;rw[← hbs] at JG3;rw[← hbs] at JG4;rw[← hbs] at JG5;have HBW:=qh (show w.heap.size≤bs by rw[hbs];exact(show w.heap.size≤w18.heap.size from HKW.out));rw[← hbs] at HB ⊢;clear hbs hV hb HKW cBX10 cBX11 cBX12 cBX13 cBX80 cBX81 cBX82 cBX83;have cBX80:=BX8.out.cell (i:=0) rfl;have cBX81:=BX8.out.cell (i:=1) rfl;have cBX82:=BX8.out.cell (i:=2) rfl;have cBX83:=BX8.out.cell (i:=3) rfl;have CT:=qh (show Calls Tryz.prog 23 #[.pointer (some ⟨bs,0,none⟩),.slice y1.a y1.n y1.c] w19 _ from HB.out.polyP G1.out IG1.out JG1.out (by have:=HXN.out;have:=HYN.out;have:=NFN.out;have:=HZ1.out;have:=LPN.out;have:=HZ2.out;have:=SCN.out;have:=HZ3.out;omega));go_wp2_with fail
 with_reducible refine CT.out.mono ?_
 rintro e w20 ⟨⟨r,rfl⟩,hB,hk⟩;have HB:=qh hB;have KG:=qh (KG.out.trans (hk.bel.mono HBW.out));have G2:=qh (G2.out.keepB hk JG2.out);have G3:=qh (G3.out.keepB hk JG3.out);have G4:=qh (G4.out.keepB hk JG4.out);have G5:=qh (G5.out.keepB hk JG5.out);have BX8:=qh (Bxs.keepB BX8.out hk (by decide));clear CT hB hk G1 IG1 cBX80 cBX81 cBX82 cBX83;have cBX80:=BX8.out.cell (i:=0) rfl;have cBX81:=BX8.out.cell (i:=1) rfl;have cBX82:=BX8.out.cell (i:=2) rfl;have cBX83:=BX8.out.cell (i:=3) rfl;have CT:=qh (show Calls Tryz.prog 24 #[.pointer (some ⟨bs,0,none⟩),.agg #[.bool y2.t.s,.slice y2.t.a y2.t.n y2.t.c,.bool y2.l.s,.slice y2.l.a y2.l.n y2.l.c]] w20 _ from HB.out.fracP G2.out IG2.out JG2.out (by have:=HXN.out;have:=HYN.out;have:=NFN.out;have:=HZ1.out;have:=LPN.out;have:=HZ2.out;have:=SCN.out;have:=HZ3.out;omega));go_wp2_with fail
 with_reducible refine CT.out.mono ?_
 rintro e w21 ⟨⟨r,rfl⟩,hB,hk⟩;have HB:=qh hB;have KG:=qh (KG.out.trans (hk.bel.mono HBW.out));have G3:=qh (G3.out.keepB hk JG3.out);have G4:=qh (G4.out.keepB hk JG4.out);have G5:=qh (G5.out.keepB hk JG5.out);have BX8:=qh (Bxs.keepB BX8.out hk (by decide));clear CT hB hk G2 IG2 cBX80 cBX81 cBX82 cBX83;have cBX80:=BX8.out.cell (i:=0) rfl;have cBX81:=BX8.out.cell (i:=1) rfl;have cBX82:=BX8.out.cell (i:=2) rfl;have cBX83:=BX8.out.cell (i:=3) rfl;have CT:=qh (show Calls Tryz.prog 23 #[.pointer (some ⟨bs,0,none⟩),.slice z1.a z1.n z1.c] w21 _ from HB.out.polyP G3.out IG3.out JG3.out (by have:=HXN.out;have:=HYN.out;have:=NFN.out;have:=HZ1.out;have:=LPN.out;have:=HZ2.out;have:=SCN.out;have:=HZ3.out;omega));go_wp2_with fail
 with_reducible refine CT.out.mono ?_
 rintro e w22 ⟨⟨r,rfl⟩,hB,hk⟩;have HB:=qh hB;have KG:=qh (KG.out.trans (hk.bel.mono HBW.out));have G4:=qh (G4.out.keepB hk JG4.out);have G5:=qh (G5.out.keepB hk JG5.out);have BX8:=qh (Bxs.keepB BX8.out hk (by decide));clear CT hB hk G3 IG3 cBX80 cBX81 cBX82 cBX83;have cBX80:=BX8.out.cell (i:=0) rfl;have cBX81:=BX8.out.cell (i:=1) rfl;have cBX82:=BX8.out.cell (i:=2) rfl;have cBX83:=BX8.out.cell (i:=3) rfl;have CT:=qh (show Calls Tryz.prog 23 #[.pointer (some ⟨bs,0,none⟩),.slice z2.a z2.n z2.c] w22 _ from HB.out.polyP G4.out IG4.out JG4.out (by have:=HXN.out;have:=HYN.out;have:=NFN.out;have:=HZ1.out;have:=LPN.out;have:=HZ2.out;have:=SCN.out;have:=HZ3.out;omega));go_wp2_with fail
 with_reducible refine CT.out.mono ?_
 rintro e w23 ⟨⟨r,rfl⟩,hB,hk⟩;have HB:=qh hB;have KG:=qh (KG.out.trans (hk.bel.mono HBW.out));have G5:=qh (G5.out.keepB hk JG5.out);have BX8:=qh (Bxs.keepB BX8.out hk (by decide));clear CT hB hk G4 IG4 cBX80 cBX81 cBX82 cBX83;have cBX80:=BX8.out.cell (i:=0) rfl;have cBX81:=BX8.out.cell (i:=1) rfl;have cBX82:=BX8.out.cell (i:=2) rfl;have cBX83:=BX8.out.cell (i:=3) rfl;have CT:=qh (show Calls Tryz.prog 23 #[.pointer (some ⟨bs,0,none⟩),.slice z3.a z3.n z3.c] w23 _ from HB.out.polyP G5.out IG5.out JG5.out (by have:=HXN.out;have:=HYN.out;have:=NFN.out;have:=HZ1.out;have:=LPN.out;have:=HZ2.out;have:=SCN.out;have:=HZ3.out;omega));go_wp2_with fail
 with_reducible refine CT.out.mono ?_
 rintro e w24 ⟨⟨r,rfl⟩,hB,hk⟩;have HB:=qh hB;have KG:=qh (KG.out.trans (hk.bel.mono HBW.out));have BX8:=qh (Bxs.keepB BX8.out hk (by decide));clear CT hB hk G5 IG5 cBX80 cBX81 cBX82 cBX83;have CT:=qh (show Calls Tryz.prog 25 #[.pointer (some ⟨bs,0,none⟩)] w24 _ from HB.out.apartA (by omega) (by have:=HXN.out;have:=HYN.out;have:=NFN.out;have:=HZ1.out;have:=LPN.out;have:=HZ2.out;have:=SCN.out;have:=HZ3.out;omega));go_wp2_with fail
 with_reducible refine CT.out.mono ?_
 rintro e w25 ⟨rfl,hb⟩;go_wp2_with fail
 go_ret;exact⟨rfl,KG.out.trans hb⟩
end Go.Proofs.YtgkkbkoiaccmfaaGreatDoor.Pol
namespace Go.Proofs.YtgkkbkoiaccmfaaGreatDoor.Limb
open Go.RowKit Go.Sort Go.Proofs.YtgkkbkoiaccmfaaGreatDoor.Pol
open Go.ChangeShapes Go.WideShapes Go.ChangeAt
namespace PolysMakesC
theorem own:ownKnob Tryz.prog.godebug=none:=by kernel_rfl
theorem laidOut:laidOutB Tryz.prog=true:=by kernel_rfl
noncomputable def laidWorld (os:Os):World :=
 { World.holding Tryz.prog os ⟨#[],#[],[]⟩ with heap:=((((World.holding Tryz.prog os ⟨#[],#[],[]⟩).heap.modify 0 fun
   | .cells _ t frozen=>.cells #[.int .u64 1,.int .u64 10,.int .u64 100,.int .u64 1000,.int .u64 10000,.int .u64 100000,.int .u64 1000000,.int .u64 10000000,.int .u64 100000000,.int .u64 1000000000,.int .u64 10000000000,.int .u64 100000000000,.int .u64 1000000000000,.int .u64 10000000000000,.int .u64 100000000000000,.int .u64 1000000000000000,.int .u64 10000000000000000,.int .u64 100000000000000000,.int .u64 1000000000000000000,.int .u64 10000000000000000000] t frozen
   | o=>o).modify 1 fun
   | .cells _ t frozen=>.cells #[.int .u8 0,.int .u8 1,.int .u8 28,.int .u8 2,.int .u8 29,.int .u8 14,.int .u8 24,.int .u8 3,.int .u8 30,.int .u8 22,.int .u8 20,.int .u8 15,.int .u8 25,.int .u8 17,.int .u8 4,.int .u8 8,.int .u8 31,.int .u8 27,.int .u8 13,.int .u8 23,.int .u8 21,.int .u8 19,.int .u8 16,.int .u8 7,.int .u8 26,.int .u8 12,.int .u8 18,.int .u8 6,.int .u8 11,.int .u8 5,.int .u8 10,.int .u8 9] t frozen
   | o=>o).modify 2 fun
   | .cells _ t frozen=>.cells #[.int .u8 0,.int .u8 1,.int .u8 56,.int .u8 2,.int .u8 57,.int .u8 49,.int .u8 28,.int .u8 3,.int .u8 61,.int .u8 58,.int .u8 42,.int .u8 50,.int .u8 38,.int .u8 29,.int .u8 17,.int .u8 4,.int .u8 62,.int .u8 47,.int .u8 59,.int .u8 36,.int .u8 45,.int .u8 43,.int .u8 51,.int .u8 22,.int .u8 53,.int .u8 39,.int .u8 33,.int .u8 30,.int .u8 24,.int .u8 18,.int .u8 12,.int .u8 5,.int .u8 63,.int .u8 55,.int .u8 48,.int .u8 27,.int .u8 60,.int .u8 41,.int .u8 37,.int .u8 16,.int .u8 46,.int .u8 35,.int .u8 44,.int .u8 21,.int .u8 52,.int .u8 32,.int .u8 23,.int .u8 11,.int .u8 54,.int .u8 26,.int .u8 40,.int .u8 15,.int .u8 34,.int .u8 20,.int .u8 31,.int .u8 10,.int .u8 25,.int .u8 14,.int .u8 19,.int .u8 9,.int .u8 13,.int .u8 8,.int .u8 7,.int .u8 6] t frozen
   | o=>o) }
noncomputable def witArgs:Array Value:=#[.slice none 0 0,fracV false none 0 0 false none 0 0,.int .i64 0]
theorem laid_met (os:Os):laidMet Tryz.prog Rows.polysMakesRow.laid ((laidWorld os).forCall (fun _ _=>0) ⟨#[],witArgs,[]⟩).memory :=
 laidMet_of_run' 8 (by kernel_rfl) (by kernel_rfl)
theorem reads (os:Os) {H:Type} (enc:TypeId × Value→H):∃ places,DataW.whole enc Tryz.prog ((laidWorld os).forCall (fun _ _=>0) ⟨#[],witArgs,[]⟩).memory Tryz.f3.params.toList Rows.polysMakesSpec.vars false witArgs.toList 8=some ([.nil,.agg [.agg [.lit (.bool false),.nil],.agg [.lit (.bool false),.nil]],.lit (.int .i64 0)],[],places) :=
 ⟨[],by kernel_rfl⟩
theorem lifted (os:Os) (started:os.Started) (H:Type) (enc:TypeId × Value→H) (F:Stop.Interp) :
  ReturnsInHanded {} Tryz.checked os 3 .any ((OpenSpec.ofChange Rows.polysMakesSpec).preRow enc Tryz.prog Tryz.f3 Rows.polysMakesRow.domain false Rows.polysMakesRow.laid) (((OpenSpec.ofChange Rows.polysMakesSpec).at F).post enc Tryz.prog Tryz.f3 false true false false):=by
 obtain⟨places,hx⟩:=reads os enc
 refine returnsInHanded_of_row (C:=Tryz.checked) (s:=OpenSpec.ofChange Rows.polysMakesSpec) own started (by kernel_rfl) Tryz.func3
  (witness_row_at (enc:=enc) (C:=Tryz.checked) false (laidWorld os) witArgs rfl (by kernel_rfl) (by kernel_rfl) (by kernel_rfl)
   (OpenSpec.preRow_of_cond 8 hx (by kernel_rfl) (fun k hk=>by cases hk) (by kernel_rfl) (laid_met os))) ?_
 intro W base args ds gs before hval0 hW _ _ hwt _ _ _;have hval:∀ (j:Nat) t v,Tryz.f3.params[j]?=some t→args[j]?=some v→Value.okWide Tryz.prog W .any base t v:=hval0;have hW':=hW;obtain⟨p,q,hA0,hV,rfl,hfz,hnd⟩:=hW;have hA:DataW.TrodAll enc Tryz.prog W 0 (fun _=>true) true Tryz.f3.params.toList args.toList ds p:=hA0;rw[Tryz.params3] at hA hval;obtain⟨v0,v1,v2,d0,d1,d2,p0,p1,p2,rfl,rfl,rfl,h0,h1,h2⟩:=trodAll_three hA;obtain⟨rfl,rfl⟩:=trodVars_none hV;obtain⟨x0,L0,rfl,r0⟩:=open_poly (hval 0 23 v0 rfl rfl) h0;obtain⟨y1,rfl,r1⟩:=open_fracW (hval 1 28 v1 rfl rfl) h1 (each_weight hwt (j:=1) (by kernel_rfl) rfl);obtain⟨z2,rfl,-,-,wz2⟩:=open_int Tryz.underlying3 (hval 2 3 v2 rfl rfl) h2
 refine(polysMakes_law x0 L0 y1 z2 W r0 r1 (bounds_i64 wz2).1 (bounds_i64 wz2).2).mono fun e W' ⟨he,hg⟩=>?_
 subst he;exact⟨_,rfl,LawPost.law_post laidOut (by kernel_rfl) (by kernel_rfl) Tryz.underlying4 hW' rfl rfl hg⟩
theorem k4:mapsRowed Tryz.prog=true:=by kernel_rfl
theorem k10:(Rows.polysMakesRow.inPlace==Tryz.prog.inPlace 3)=true:=by kernel_rfl
theorem k11:(Rows.polysMakesRow.unfollowed==Tryz.prog.unfollowed 3)=true:=by kernel_rfl
theorem k12:(Rows.polysMakesRow.recurses==Tryz.prog.recurses 3)=true:=by kernel_rfl
theorem k13:(Rows.polysMakesRow.named==Tryz.prog.varsNamed 3)=true:=by kernel_rfl
theorem closed:joinedFacts Tryz.prog 3 Tryz.f3 (OpenSpec.ofChange Rows.polysMakesSpec).bare Rows.polysMakesRow=true:=by
 unfold joinedFacts;rw[laidOut,k4,k10,k11,k12,k13]
 kernel_rfl
theorem said:Rows.PolysMakesSaid :=
 OpenClaim.holds_of_cond 3 Tryz.f3 rfl rfl rfl rfl rfl rfl rfl ⟨rfl,rfl,rfl,rfl,rfl⟩ rfl rfl rfl rfl rfl (by kernel_rfl) Tryz.func3 closed
  (of_decide_eq_true (by kernel_rfl)) (by unfold Func.isWrapper;first | (rw[if_pos (by decide +kernel)];kernel_rfl) | (rw[if_neg (by decide +kernel)];exact⟨rfl,rfl⟩))
  (fun os started H enc _ F=>by rw[OpenClaim.pre_eq_preRow];exact lifted os started H enc F)
theorem plain (f : FuncId) (fn : Func) (hf : Tryz.pinned.checked.prog.funcNamed "reckoner/reckonerlaw04.PolysMakes" = some f) (hfn : Tryz.pinned.checked.prog.funcs[f]? = some fn) :
  false=Tryz.pinned.checked.prog.looks []∧∀ (j:Nat) t,fn.params[j]?=some t→Tryz.pinned.checked.prog.wantsStandIn t=false:=by
 obtain rfl : f = 3 := Option.some.inj ((show Tryz.prog.funcNamed "reckoner/reckonerlaw04.PolysMakes" = some 3 by kernel_rfl).symm.trans hf) |>.symm
 obtain rfl:fn=Tryz.f3:=(Option.some.inj (Tryz.func3.symm.trans hfn)).symm;refine⟨by kernel_rfl,fun j t ht=>?_⟩;rw[Tryz.params3] at ht
 have hm:t=23∨t=28∨t=3:=by simpa using Array.mem_of_getElem? ht
 rcases hm with rfl | rfl | rfl
 ·exact(show Tryz.prog.wantsStandIn 23=false by kernel_rfl)
 ·exact(show Tryz.prog.wantsStandIn 28=false by kernel_rfl)
 ·exact(show Tryz.prog.wantsStandIn 3=false by kernel_rfl)
theorem card:Rows.PolysMakesCardSaid :=
 Claim7.holds_tied_plain_at .later [] _ _ _ _ said (fun _ h=>by cases h) (by kernel_rfl) (fun _ h=>by cases h) polysMakes_row_tie rfl ⟨rfl,rfl⟩ (by kernel_rfl) rfl plain (by kernel_rfl)
#print axioms card
end PolysMakesC
end Go.Proofs.YtgkkbkoiaccmfaaGreatDoor.Limb
