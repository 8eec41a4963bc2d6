/-
  The law DividesOf: whatever it is handed, it returns true, and what it was handed reads behind the call as it read before; the card ties the listed tables to the program's text.
-/
import Derived.Test.YthacfgmdihcffaaGreatDoorPzTV
import Derived.Test.YthacfgmdihcffaaGreatDoorCards
import Derived.Test.YthacfgmdihcffaaGreatDoorTie
set_option linter.unusedSimpArgs false
set_option linter.unusedVariables false
set_option maxHeartbeats 16000000
set_option maxRecDepth 100000
open Go.Proofs.Tryz
namespace Go.Proofs.YthacfgmdihcffaaGreatDoor
namespace Pol
open Go.RowKit Go.Sort Limb Book
variable {W w:World} {N c lo n q:Nat} {a b:Option Addr} {Zs xs ys zs:List PV} {P R:List Tm}
theorem Sep.head {r:PV} {i:List (PV × List Tm)} (h:Sep w lo ((r,R) :: i)):DP w lo r R:=by
 obtain⟨j,k,g,_⟩:=h.ex;obtain⟨d,_,_,f⟩:=g 0 _ rfl;exact f.dp.mono d
theorem DRes.left {o d:Int} {ok:Bool} {h:List (List Tm × Bool)} {f:DS->Prop} (H:DRes o n P ok h d N f) (g:World) (t:PV) (b:Option Addr) (v:Nat) (p:List PV) (i:DIn g P ok h t b p) :
  Cl 24 #[.int .u8 o,t.v,.slice b n v] g λe m=>∃ (r:PV) (s:DS),e=.returned (.tuple #[r.v,.int .i64 d])/\f s/\DP m g.heap.size r s.r/\Bl g m:=by
 have u:=qh<|H.own g t b v p i;obtain⟨E,G,F⟩:=t;change Cl 24 #[.int .u8 o,.slice E G F,.slice b n v] g _;clear H i;go_enter func24,ntmps24;go_wp2_with fail
 with_reducible refine u.o.mono ?_
 rintro e I ⟨⟨B,D,C⟩,⟨j,l,k⟩,zs,s,y,z,-,-,-,A,x⟩;obtain rfl:e=.returned (.tuple #[.slice B D C,.slice j l k,.int .i64 d]):=y;go_wp2;go_ret2;exact⟨⟨j,l,k⟩,s,rfl,z,Sep.head A,x⟩
theorem OW.rs {v:Value} (m:OW w lo v Zs):∃ a c,v=.slice a Zs.length c/\RS w a Zs:=by
 rcases m.2 with ⟨d,h⟩ | ⟨g,f,l,d,_⟩
 ·have k:Zs=[]:=List.length_eq_zero_iff.1 h;subst k;exact⟨none,0,d,RS.nil _ _⟩
 ·refine⟨some ⟨g,0,none⟩,f,d,⟨λ_=>⟨g,0,rfl,λo p j=>?_⟩⟩⟩;have i:=World.ownsRow.cells m (g:=g) (by rw[d];rfl) o p.v (by rw[List.getElem?_map,j];rfl);rwa [Addr.add_lit] at i
theorem OW.rs2 (g:OW w lo (.slice a n c) Zs):RS w a Zs:=by
 obtain⟨f,c2,e,d⟩:=OW.rs g
 injection e with e
 rw[e];exact d
theorem jeh {g k:Type} {i:List g} {j:List k} {h:Nat} {a:g} (l:i.length=j.length) (f:i[h]?=some a):∃ b,j[h]?=some b/\(i.zip j)[h]?=some (a,b):=by
 have d:=(List.getElem?_eq_some_iff.1 f).1;rw[l] at d;exact⟨_,List.getElem?_eq_getElem d,List.getElem?_zip_eq_some.2 ⟨f,List.getElem?_eq_getElem d⟩⟩
theorem DIn.twins {ok:Bool} {d:List (List Tm × Bool)} {x t:PV} (r:DIn W P ok d x a xs) (p:SA w t P ok 8 4 65535) (m:OW w lo (.slice b n c) ys) (f:ys.length=xs.length) (o:KE W w lo (ys.zip xs)):DIn w P ok d t b ys:=by
 refine⟨p,OW.rs2 m,f.trans r.len,λs z u g h=>?_⟩;obtain⟨v,i,j⟩:=jeh f g;obtain⟨y,A,k,_⟩:=o.ex;obtain⟨_,_,_,l⟩:=k s _ j;exact l.tw.sa (r.q s v u i h)
theorem jaz {K:Nat}:∀ (f:List PT),(∀ e∈f,e.1.n<=K)->Qp f<=(2*K+1)*f.length
 | [],_=>Nat.zero_le _
 | e :: r,h=>by
  have g:=jaz r λj d=>h j (List.mem_cons_of_mem _ d)
  have i:=h e (List.mem_cons_self ..);show 2*e.1.n+1+Qp r<=(2*K+1)*(r.length+1);rw[Nat.mul_succ];omega
theorem map_at {d:List PTS} (g:d.length=ys.length) (i:∀ (h:Nat) (e:PTS),d[h]?=some e->ys[h]?=some e.1.1):(d.map λe=>e.1.1)=ys:=by
 apply List.ext_getElem?;intro k;rw[List.getElem?_map]
 cases hk:d[k]? with
 | none =>
  have f:=List.getElem?_eq_none_iff.1 hk;rw[g] at f;rw[List.getElem?_eq_none f]
  rfl
 | some e=>rw[i k e hk];rfl
theorem jjc (g:OW w lo (.slice a n c) Zs):∀ d,a=some d->d.block<w.heap.size:=λd f=>(World.ownsRow.lt g d.block (by rw[f];rfl)).2
theorem KE.gq (Y:KE W w lo (ys.zip xs)) (G:OW w lo (.slice b n c) ys) (E:ys.length=xs.length) (H:∀ p∈xs,p.n<=8) (Z:ys.length<=4) (F:lo<=w.heap.size) (hq:q<=1000) :
  ∃ h:List PT,h.length=ys.length/\GQ w b h q lo w.heap.size/\Qp h<=68:=by
 obtain⟨z,A,J,L⟩:=Y.ex
 obtain⟨h,l,k⟩:=Vf (α:=PTS) (Φ:=λd e=>∃ p,ys[d]?=some e.1.1/\p∈xs/\e.2=Bw (z d) (A d)/\PS w lo e.1.1 e.1.2 (Bw (z d) (A d))/\lo<=z d/\A d<=w.heap.size/\e.1.1.n=p.n) ys.length λd g=>by
  obtain⟨p,x,M⟩:=jeh E (List.getElem?_eq_getElem g);have u:=List.mem_of_getElem? x;obtain⟨B,r,i,j⟩:=J d _ M;obtain⟨T,v⟩:=j.ps (by have:=H p u;show p.n<=_;omega);exact⟨((_,T),Bw (z d) (A d)),p,List.getElem?_eq_getElem g,u,rfl,v.mono B,B,i,j.tw.n⟩
 have y:Qp (h.map Prod.fst)<=68:=by
  have x:=jaz (K:=8) (h.map Prod.fst) λe D=>by
   obtain⟨f,O,rfl⟩:=List.mem_map.1 D;obtain⟨d,g⟩:=List.mem_iff_getElem?.1 O;obtain⟨p,_,r,_,_,_,_,X⟩:=k d f g;have:=H p r;omega
  rw[List.length_map,l] at x;omega
 have o:∀ e∈h,∃ d,PS w lo e.1.1 e.1.2 e.2/\e.2=Bw (z d) (A d)/\lo<=z d/\A d<=w.heap.size:=λe m=>by
  obtain⟨d,g⟩:=List.mem_iff_getElem?.1 m;obtain⟨p,_,_,i,j,v,I,_⟩:=k d e g;exact⟨d,by rw[i];exact j,i,v,I⟩
 refine⟨h.map Prod.fst,by rw[List.length_map,l],GQ.of h (by rw[map_at l λd e g=>(k d e g).choose_spec.1];exact OW.rs2 G) (jjc G) (λe m=>(o e m).choose_spec.1) ?_ (λe m b C=>?_) Zo zj F,y⟩
 ·rw[List.pairwise_iff_getElem];intro d V g Q U b s t;obtain⟨_,_,_,i,_⟩:=k d _ (List.getElem?_eq_getElem g);obtain⟨_,_,_,S,_⟩:=k V _ (List.getElem?_eq_getElem Q);rw[i] at s;rw[S] at t
  have hz:(ys.zip xs).length=ys.length:=by rw[List.length_zip,<- E,Nat.min_self]
  have:=L d V Zo Zo Zo;unfold Bw at s t;omega
 ·obtain⟨d,_,r,i,j⟩:=o e m;rw[r] at C;unfold Bw at C;omega
theorem Sep.gq2 {q:Nat} {r:PV} {z:List (List Tm)} (ag:Sep w lo ((r,R) :: zs.zip z)) (S:OQ w lo (.slice a n c) zs) (O:zs.length=z.length) (hn:zs.length<=4)
  (I:∀ o∈z,o.length<=656/\∀ aa∈o,LQ aa.2 900000) (J:R.length<=656) (L:∀ aa∈R,LQ aa.2 900000) (Q:lo<=w.heap.size) (hq:q<=4000) :
  ∃ (h:List PT) (l:List TV),h.length=zs.length/\GQ2 w a h (r,l) q lo w.heap.size/\Qp h<=5252:=by
 obtain⟨x,y,F,G⟩:=ag.ex
 have ae:(zs.zip z).length=zs.length:=by rw[List.length_zip,<- O,Nat.min_self]
 obtain⟨T,r2,r3,U⟩:=F 0 _ rfl;obtain⟨l,r5⟩:=U.ps L (zm J Ze)
 obtain⟨h,v,m⟩:=Vf (α:=PTS) (Φ:=λd e=>zs[d]?=some e.1.1/\e.2=Bw (x (d+1)) (y (d+1))/\PS w lo e.1.1 e.1.2 (Bw (x (d+1)) (y (d+1)))/\lo<=x (d+1)/\y (d+1)<=w.heap.size/\e.1.1.n<=656) zs.length λd g=>by
  obtain⟨o,t,X⟩:=jeh O (List.getElem?_eq_getElem g);obtain⟨k,j⟩:=I o (List.mem_of_getElem? t);obtain⟨D,E,p,s⟩:=F (d+1) _ (by rw[List.getElem?_cons_succ];exact X);obtain⟨us,A⟩:=s.ps j (zm k Ze);exact⟨((_,us),Bw (x (d+1)) (y (d+1))),List.getElem?_eq_getElem g,rfl,A.mono D,D,p,by have Y:(zs[d]).n=o.length:=s.dp.k.len;show(zs[d]).n<=_;omega⟩
 have ad:r.n<=656:=by have Y:r.n=R.length:=U.dp.k.len;omega
 have B:Qp (h.map Prod.fst)<=5252:=by
  have t:=jaz (K:=656) (h.map Prod.fst) λe M=>by
   obtain⟨f,C,rfl⟩:=List.mem_map.1 M;obtain⟨d,g⟩:=List.mem_iff_getElem?.1 C;exact(m d f g).2.2.2.2.2
  rw[List.length_map,v] at t;omega
 have u:∀ e∈h++[((r,l),Bw (x 0) (y 0))],PS w lo e.1.1 e.1.2 e.2/\∃ d,e.2=Bw (x d) (y d)/\lo<=x d/\y d<=w.heap.size:=λe i=>by
  rcases List.mem_append.1 i with i | i
  ·obtain⟨d,g⟩:=List.mem_iff_getElem?.1 i;obtain⟨_,p,s,A,V,_⟩:=m d e g;exact⟨by rw[p];exact s,d+1,p,A,V⟩
  ·rw[List.mem_singleton.1 i];exact⟨r5.mono T,0,rfl,T,r3⟩
 refine⟨h.map Prod.fst,l,by rw[List.length_map,v],GQ2.of h ((r,l),Bw (x 0) (y 0)) (by rw[map_at v λd e g=>(m d e g).1];exact OW.rs2 S) (jjc S) (λe i=>(u e i).1) ?_ (λe i b H=>?_) ?_ zj Q,B⟩
 ·refine List.pairwise_append.2 ⟨?_,List.pairwise_singleton _ _,λe i f C b k j=>?_⟩
  ·rw[List.pairwise_iff_getElem];intro d af g Z ab b k j;rw[(m d _ (List.getElem?_eq_getElem g)).2.1] at k;rw[(m af _ (List.getElem?_eq_getElem Z)).2.1] at j;have:=G (d+1) (af+1) (by rw[List.length_cons];omega) (by rw[List.length_cons];omega) Zo;unfold Bw at k j;omega
  ·rw[List.mem_singleton.1 C] at j;obtain⟨d,g⟩:=List.mem_iff_getElem?.1 i;have ac:=(List.getElem?_eq_some_iff.1 g).1;rw[(m d e g).2.1] at k;have:=G (d+1) 0 (by rw[List.length_cons];omega) (by rw[List.length_cons];omega) Zo;have j:Bw (x 0) (y 0) b:=j;unfold Bw at k j;omega
 ·obtain⟨_,d,E,p,s⟩:=u e i;rw[E] at H;unfold Bw at H;omega
 ·rw[List.map_append];have t:=Yb (h.map Prod.fst) (r,l);change q+Qp (h.map Prod.fst++[(r,l)])<=30000;rw[t];show q+(_+(2*r.n+1))<=_;omega
theorem quo_same {k wc:Nat} {g:Option Addr} {r:PV} {f:List PV} {d:List (List Tm)} (G:Sep w lo ((r,R) :: zs.zip d)) (y:OQ w lo (.slice a n c) zs) (v:zs.length=d.length) (D:zs.length=N) (x:n=N) (H:N<=4)
  (i:∀ o∈d,o.length<=656/\∀ J∈o,LQ J.2 900000) (A:RS w g f) (B:f.length=N) (C:k=N) (u:∀ (j:Nat) (z:PV) (q:List Tm),f[j]?=some z->d[j]?=some q->KP w z q) :
  Cl 14 #[.slice a n c,.slice g k wc] w λe F=>e=.returned (.bool true)/\Bl w F:=by
 subst x C
 refine jez a g _ c wc zs f w (OW.rs2 y) A D B Zo λj O K p s=>?_
 obtain⟨o,h,t⟩:=jeh v p;obtain⟨L,M,m,_⟩:=G.ex;obtain⟨_,_,_,l⟩:=m (j+1) _ (by rw[List.getElem?_cons_succ];exact t);obtain⟨I,E⟩:=i o (List.mem_of_getElem? h);exact⟨o,l.dp.k,u j K o s h,E,Zo⟩
theorem KE.lefts {s:Nat} (t:KE W w lo (ys.zip xs)) (o:OW w lo (.slice b n c) ys) (p:RS w a xs) (g:Bl W w) (u:ys.length=xs.length) (r:xs.length=n) (v:n<=4) (m:∀ i∈xs,i.n<=8) :
  Cl 27 #[.slice b n c,.slice a n s] w λe h=>e=.returned (.bool true)/\Bl w h:=by
 refine je2 b a n c s ys xs w (OW.rs2 o) p Zo r Zo λx y i l f h d=>?_
 obtain⟨z,A,k,_⟩:=t.ex;obtain⟨_,_,_,j⟩:=k x (y,i) (List.getElem?_zip_eq_some.2 ⟨l,f⟩);exact(j.tw.below d).left (g.trans (d.mono g.size)) (by have:=m i (List.mem_of_getElem? f);show i.n<=_;omega)
theorem jbb (o:Int) (A:PV) (L1:List TO) (a2:Option Addr) (E c2:Nat) (Xs:List (PV × List TO)) (w:World) (ho:0<=o) (U:RawL w A L1) (h2:RawR w a2 E Xs) :
  Cl 4 #[.int .u8 o,.slice A.a A.n A.c,.slice a2 E c2] w λe w'=>e=.returned (.bool true)/\Bl w w':=by
 have h:=qh<|Below.refl w.heap.size w;have HO:=qh ho;have N1:=qh U;have N2:=qh h2;clear ho U h2;have f:=qh<|show Cl 21 #[.int .u8 o,.int .i64 8,.int .i64 6,.slice A.a A.n A.c,.slice a2 E c2] w _ from jh1 (o:=o) (c:=c2) 8 6 N1.o N2.o Ze;go_enter func4,ntmps4;go_wp2_with fail
 with_reducible refine f.o.mono ?_
 rintro e w1 ⟨gb,rfl,hn,d⟩;clear f;have h:=qk h d;clear d
 rcases Bool.eq_false_or_eq_true gb with rfl | rfl
 ·clear hn;go_wp2;go_ret;exact⟨rfl,h.o⟩
 have GX:=qh<|hn rfl;clear hn;obtain⟨P1,bk,Qs,cd,N,bj,aU,aA,bb⟩:=je3 HO.o N1.o N2.o GX.o;have k:=qh (show A.n<=8 from by have U:=GX.o.p.1;have h2:=N1.o.1.2.1;rw[List.length_map] at U;omega);have g:=qh<|aU.below h.o;have HR:=qh aA;have aq:=qh<|GX.o.n N2.o;have aK:=qh aA.n4;have ah:=qh (show(Xs.map Prod.fst).length=E by rw[List.length_map];exact N2.o.len);have ar:=qh (show ∀ x∈Xs.map Prod.fst,x.n<=8 from λx hx=>by obtain⟨e,he,rfl⟩:=List.mem_map.1 hx;have U:=(GX.o.l _ (List.mem_map.2 ⟨e,he,rfl⟩)).1.1;have h2:=(N2.o.e e he).1.2.1;rw[List.length_map] at U;omega);clear aU aA bb
 generalize Xs.map Prod.fst=xs at g ah ar
 clear N1 N2 GX HO;have aG:=qh g.o.sa;have y:=qh<|show Bt w1 w1 from⟨zk⟩;have aN:=qh<|h.o.size;have f:=qh<|show Cl 7 #[.slice A.a A.n A.c] w1 _ from jja aG.o Ze;go_wp2_with fail
 with_reducible refine f.o.mono ?_
 rintro e M ⟨B,rfl,a1,a0,aC,d⟩;clear f;have h:=qk h d;have g:=qh<|g.o.below d;have y:=qh<|y.o.below d;have v:=qh a1;have ai:=qh a0;have m:=qh aC;clear a1 a0;have s:=qh<|show GP M B (0) w1.heap.size M.heap.size from Tw2.gp aC (Zh k) d.size (Zh k);clear d aC;have z:=qh<|show Bt M M from⟨zk⟩;have aH:=qh g.o;have aO:=qh s.o.le;have aL:=qh (show ∀ x∈xs,∃ P ok,SA M x P ok 8 4 65535 from λx hx=>by obtain⟨bo,hi⟩:=List.mem_iff_getElem?.1 hx;have U:=(List.getElem?_eq_some_iff.1 hi).1;rw[g.o.len] at U;exact⟨_,_,g.o.q bo x _ hi (List.getElem?_eq_getElem U)⟩);have f:=qh<|show Cl 22 #[.slice a2 E c2] M _ from jba a2 E c2 8 4 65535 xs M g.o.row ah.o (Zh aq) aL.o Ze;go_wp2_with fail
 with_reducible refine f.o.mono ?_
 rintro e w3 ⟨b2,d2,ys,rfl,ak,aE,an,d⟩;clear f;have h:=qk h d;have g:=qh<|g.o.below d;have y:=qh<|y.o.below d;have s:=qh<|s.o.below d;have ai:=qh<|ai.o.below d;have m:=qh<|m.o.below d;have z:=qh<|z.o.below d;have au:=qh (show ys.length=xs.length by rw[aE,ah.o]);obtain⟨aw,ae,af,ad⟩:=KE.gq (q:=0+2*B.n+1) an ak au.o ar.o (Zh aq) d.size (Zi k v);have l:=qh<|show OW w3 M.heap.size (.slice b2 E d2) ys from ak;have p:=qh<|show KE M w3 M.heap.size (ys.zip xs) from an;have t:=qh af;have F:=qh ad;have a9:=qh (show aw.length=E by rw[ae,aE]);have ac:=qh<|aH.o.twins ai.o ak au.o an;clear ak aE an ae af ad aL aH d;have aP:=qh t.o.le;have f:=qh<|show Cl 23 #[.int .u8 o,.slice B.a B.n B.c,.slice b2 E d2] w3 _ from HR.o.own _ B b2 d2 ys ac.o;go_wp2_with fail
 with_reducible refine f.o.mono ?_
 rintro e w4 ⟨⟨va,vn,vc⟩,⟨ra,Y,rc⟩,zs,L,he,V,aD,ag,aB,am,d⟩;clear f;have h:=qk h d;have g:=qh<|g.o.below d;have y:=qh<|y.o.below d;have s:=qh<|s.o.below d;have m:=qh<|m.o.below d;have z:=qh<|z.o.below d;have l:=qh<|l.o.below d;have p:=qh<|p.o.below d;have t:=qh<|t.o.below d;have ac:=qh<|ac.o.below d;obtain rfl:e=.returned (.tuple #[.slice va vn vc,.slice ra Y rc,.int .i64 cd]):=he;obtain⟨aT,ax,ay,az⟩:=HR.o.b L V;have aM:=qh (show zs.length=L.os.length by rw[ag,aT]);have a3:=qh ax;have aa:=qh ay;have ao:=qh az;have aI:=qh V;have a5:=qh<|show vn=N from aD;have a8:=qh ag;have a7:=qh (show zs.length<=4 by rw[ag];exact aK.o);obtain⟨aS,bm,ae,af,ad⟩:=Sep.gq2 (q:=0+2*B.n+1+Qp aw) am aB aM.o a7.o ax ay az d.size (by have:=k.o;have:=v.o;have:=F.o;omega);have Q:=qh<|show OW w4 w3.heap.size (.slice va vn vc) zs from aB;have C:=qh<|show Sep w4 w3.heap.size ((⟨ra,Y,rc⟩,L.r) :: zs.zip L.os) from am;have i:=qh af;have I:=qh ad;have ba:=qh (show aS.length=vn by rw[ae,ag];exact aD.symm);have J:=qh (show Y<=656 by have h9:Y=L.r.length:=(Sep.head am).k.len;omega);clear V aD ag aB am aT ax ay az ae af ad d;have aQ:=qh i.o.le;have f:=qh<|show Cl 24 #[.int .u8 o,.slice B.a B.n B.c,.slice b2 E d2] w4 _ from HR.o.left _ B b2 d2 ys ac.o;go_wp2_with fail
 with_reducible refine f.o.mono ?_
 rintro e w5 ⟨⟨la,X,lc⟩,s2,he,V,aj,d⟩;clear f;have h:=qk h d;have g:=qh<|g.o.below d;have y:=qh<|y.o.below d;have s:=qh<|s.o.below d;have m:=qh<|m.o.below d;have z:=qh<|z.o.below d;have l:=qh<|l.o.below d;have p:=qh<|p.o.below d;have t:=qh<|t.o.below d;have Q:=qh<|Q.o.below d;have C:=qh<|C.o.below d;have i:=qh<|i.o.below d;obtain rfl:e=.returned (.tuple #[.slice la X lc,.int .i64 cd]):=he;obtain rfl:=HR.o.uniq L s2 aI.o V;have O:=qh (show X<=656 by have h9:X=L.r.length:=aj.k.len;have:=aa.o;omega);have Z:=qh<|show DP w5 w4.heap.size ⟨la,X,lc⟩ L.r from aj;have j:=qh<|show GP w5 ⟨la,X,lc⟩ (0+2*B.n+1+Qp aw+Qp aS+2*Y+1) w4.heap.size w5.heap.size from DP.gp aj ao.o (Zh aa) d.size (by have:=aa.o;have:=k.o;have:=v.o;have:=F.o;have:=I.o;have:=J.o;omega);clear V aj d;have f:=qh<|show Cl 25 #[.int .u8 o,.slice A.a A.n A.c,.slice a2 E c2] w5 _ from HR.o.ref _ A a2 c2 xs g.o;go_wp2_with fail
 with_reducible refine f.o.mono ?_
 rintro e w6 ⟨⟨wa,wn,wc⟩,⟨ua,un,uc⟩,us,s3,he,V,aZ,aY,aX,aW,aV,d⟩;clear f;have h:=qk h d;have g:=qh<|g.o.below d;have y:=qh<|y.o.below d;have s:=qh<|s.o.below d;have m:=qh<|m.o.below d;have z:=qh<|z.o.below d;have l:=qh<|l.o.below d;have p:=qh<|p.o.below d;have t:=qh<|t.o.below d;have Q:=qh<|Q.o.below d;have C:=qh<|C.o.below d;have i:=qh<|i.o.below d;have Z:=qh<|Z.o.below d;have j:=qh<|j.o.below d;obtain rfl:e=.returned (.tuple #[.slice wa wn wc,.slice ua un uc,.int .i64 cd]):=he;obtain rfl:=HR.o.uniq L s3 aI.o V;have RU:=qh aX;have KU:=qh aW;have KR:=qh<|show KP w6 ⟨ua,un,uc⟩ L.r from aV;have a6:=qh<|show wn=N from aZ;have a4:=qh aY;clear V aZ aY aX aW aV d;have SQ:=qh<|quo_same (c:=vc) (wc:=wc) C.o Q.o aM.o a8.o a5.o aK.o a3.o RU.o a4.o a6.o KU.o;have f:=qh<|show Cl 14 #[.slice va vn vc,.slice wa wn wc] w6 _ from SQ.o;go_wp2_with fail
 with_reducible refine f.o.mono ?_
 rintro e w7 ⟨rfl,d⟩;clear f;have h:=qk h d;have g:=qh<|g.o.below d;have y:=qh<|y.o.below d;have s:=qh<|s.o.below d;have m:=qh<|m.o.below d;have z:=qh<|z.o.below d;have l:=qh<|l.o.below d;have p:=qh<|p.o.below d;have t:=qh<|t.o.below d;have C:=qh<|C.o.below d;have i:=qh<|i.o.below d;have Z:=qh<|Z.o.below d;have j:=qh<|j.o.below d;have KR:=qh<|KR.o.below d;clear d SQ RU KU
 have e1:(cd != cd)=false:=by simp
 have f:=qh<|show Cl 26 #[.slice ra Y rc,.slice ua un uc] w7 _ from jh6 ⟨ra,Y,rc⟩ ⟨ua,un,uc⟩ _ _ (Sep.head C.o).k KR.o ao.o (Zh aa);go_wp2_with fail
 with_reducible refine f.o.mono ?_
 rintro e w8 ⟨rfl,d⟩;clear f;have h:=qk h d;have g:=qh<|g.o.below d;have y:=qh<|y.o.below d;have s:=qh<|s.o.below d;have m:=qh<|m.o.below d;have z:=qh<|z.o.below d;have l:=qh<|l.o.below d;have p:=qh<|p.o.below d;have t:=qh<|t.o.below d;have i:=qh<|i.o.below d;have Z:=qh<|Z.o.below d;have j:=qh<|j.o.below d;have KR:=qh<|KR.o.below d;clear d;have f:=qh<|show Cl 26 #[.slice la X lc,.slice ua un uc] w8 _ from jh6 ⟨la,X,lc⟩ ⟨ua,un,uc⟩ _ _ Z.o.k KR.o ao.o (Zh aa);go_wp2_with fail
 with_reducible refine f.o.mono ?_
 rintro e w9 ⟨rfl,d⟩;clear f;have h:=qk h d;have g:=qh<|g.o.below d;have y:=qh<|y.o.below d;have s:=qh<|s.o.below d;have m:=qh<|m.o.below d;have z:=qh<|z.o.below d;have l:=qh<|l.o.below d;have p:=qh<|p.o.below d;have t:=qh<|t.o.below d;have i:=qh<|i.o.below d;have j:=qh<|j.o.below d;clear d;have f:=qh<|show Cl 16 #[.slice B.a B.n B.c,.slice A.a A.n A.c] w9 _ from m.o.left y.o.b (Zh k);go_wp2_with fail
 with_reducible refine f.o.mono ?_
 rintro e bc ⟨rfl,d⟩;clear f;have h:=qk h d;have g:=qh<|g.o.below d;have s:=qh<|s.o.below d;have z:=qh<|z.o.below d;have l:=qh<|l.o.below d;have p:=qh<|p.o.below d;have t:=qh<|t.o.below d;have i:=qh<|i.o.below d;have j:=qh<|j.o.below d;clear d;have f:=qh<|show Cl 27 #[.slice b2 E d2,.slice a2 E c2] bc _ from p.o.lefts l.o g.o.row z.o.b au.o ah.o aq.o ar.o;go_wp2_with fail
 with_reducible refine f.o.mono ?_
 rintro e G ⟨rfl,d⟩;clear f;have h:=qk h d;have s:=qh<|s.o.below d;have t:=qh<|t.o.below d;have i:=qh<|i.o.below d;have j:=qh<|j.o.below d;clear d m aG ai y z l p g ac Q C Z KR;have aJ:=qh<|show w.heap.size<=G.heap.size from h.o.size;have aR:=qh s.o.le;have av:=qh t.o.le;have S:=qh i.o.le;have T:=qh j.o.le
 go_upto_region 11 with (fail)
 obtain⟨aF,hV⟩:=gn (G.alloc (.cells book0 59));have d:=bq hV (zk.alloc zj _);have H:=qh (show BG aF G.heap.size G.heap.size 0 w.heap.size w.heap.size 0 0 by rw[hV];exact BG.new G h.o.size);rw[show G.alloc (.cells #[.int .i64 0,.slice none 0 0,.slice none 0 0,.slice none 0 0,.slice none 0 0,.slice none 0 0,.slice none 0 0,.slice none 0 0,.slice none 0 0,.slice none 0 0,.slice none 0 0,.slice none 0 0,.slice none 0 0] 59)=aF from hV.symm];have h:=qk h d;have s:=qh<|s.o.below d;have t:=qh<|t.o.below d;have i:=qh<|i.o.below d;have j:=qh<|j.o.below d;obtain⟨bs,K⟩:=gn G.heap.size;rw[<- K] at aR;rw[<- K] at av;rw[<- K] at S;rw[<- K] at T;have ab:=qh (show w.heap.size<=bs by rw[K];exact(show w.heap.size<=G.heap.size from aJ.o));rw[<- K] at H ⊢;clear K hV d aJ;have f:=qh<|show Cl 17 #[.pointer (some ⟨bs,0,none⟩),.slice B.a B.n B.c] aF _ from H.o.polyP s.o aN.o aR.o (by have:=k.o;have:=v.o;have:=F.o;have:=I.o;have:=J.o;have:=O.o;omega);go_wp2_with fail
 with_reducible refine f.o.mono ?_
 rintro e be ⟨⟨r,rfl⟩,D,u⟩;have H:=qh D;have h:=qh<|h.o.trans (u.bel.mono ab.o);have t:=qh<|t.o.QA u av.o;have i:=qh<|i.o.QA u S.o;have j:=qh<|j.o.QA u T.o;clear f D u s aN;have f:=qh<|show Cl 19 #[.pointer (some ⟨bs,0,none⟩),.slice b2 E d2] be _ from H.o.polysP t.o a9.o aO.o av.o (by have:=k.o;have:=v.o;have:=F.o;have:=I.o;have:=J.o;have:=O.o;omega);go_wp2_with fail
 with_reducible refine f.o.mono ?_
 rintro e bf ⟨⟨r,rfl⟩,D,u⟩;have H:=qh D;have h:=qh<|h.o.trans (u.bel.mono ab.o);have i:=qh<|i.o.QA u S.o;have j:=qh<|j.o.QA u T.o;clear f D u t aO;have f:=qh<|show Cl 19 #[.pointer (some ⟨bs,0,none⟩),.slice va vn vc] bf _ from H.o.polys2P i.o ba.o S.o (by have:=k.o;have:=v.o;have:=F.o;have:=I.o;have:=J.o;have:=O.o;omega);go_wp2_with fail
 with_reducible refine f.o.mono ?_
 rintro e bg ⟨⟨r,rfl⟩,D,u⟩;have H:=qh D;have h:=qh<|h.o.trans (u.bel.mono ab.o);have i:=qh<|i.o.QA u S.o;have j:=qh<|j.o.QA u T.o;clear f D u;have f:=qh<|show Cl 17 #[.pointer (some ⟨bs,0,none⟩),.slice ra Y rc] bg _ from H.o.poly2P (x:=⟨ra,Y,rc⟩) i.o aP.o S.o (by have:=k.o;have:=v.o;have:=F.o;have:=I.o;have:=J.o;have:=O.o;dsimp only;omega);go_wp2_with fail
 with_reducible refine f.o.mono ?_
 rintro e bh ⟨⟨r,rfl⟩,D,u⟩;have H:=qh D;have h:=qh<|h.o.trans (u.bel.mono ab.o);have j:=qh<|j.o.QA u T.o;clear f D u i aP;have f:=qh<|show Cl 17 #[.pointer (some ⟨bs,0,none⟩),.slice la X lc] bh _ from H.o.polyP (x:=⟨la,X,lc⟩) j.o aQ.o T.o (by have:=k.o;have:=v.o;have:=F.o;have:=I.o;have:=J.o;have:=O.o;dsimp only;omega);go_wp2_with fail
 with_reducible refine f.o.mono ?_
 rintro e bi ⟨⟨r,rfl⟩,D,u⟩;have H:=qh D;have h:=qh<|h.o.trans (u.bel.mono ab.o);clear f D u j aQ;have f:=qh<|show Cl 20 #[.pointer (some ⟨bs,0,none⟩)] bi _ from H.o.apartA Zo (by have:=k.o;have:=v.o;have:=F.o;have:=I.o;have:=J.o;have:=O.o;omega);go_wp2_with fail
 with_reducible refine f.o.mono ?_
 rintro e bn ⟨rfl,d⟩;go_wp2;go_ret;exact⟨rfl,h.o.trans d⟩
end Pol
namespace Limb
open Go.RowKit Go.Sort Pol
theorem jlm {o:Int} (f:(Lit.int .u8 o).wf=true):0<=o:=by
 have d:(decide (IntKind.min .u8<=o)&&decide (o<=IntKind.max .u8))=true:=f;rw[Bool.and_eq_true] at d;have g:=of_decide_eq_true d.1;have h:IntKind.min .u8=0:=Ze;omega
open Go.ChangeShapes Go.WideShapes Go.ChangeAt
namespace DividesOfC
theorem own:ownKnob prog.godebug=none:=by kernel_rfl
theorem laidOut:laidOutB prog=true:=by kernel_rfl
noncomputable def VA (os:Os):World :=
 { World.holding prog os ⟨#[],#[],[]⟩ with heap:=((((World.holding prog os ⟨#[],#[],[]⟩).heap.modify 0 fun
   | .cells _ t frozen=>.cells #[.int .u64 1,.int .u64 10,.int .u64 100,.int .u64 1000,.int .u64 10000,.int .u64 100000,.int .u64 1000000,.int .u64 10000000,.int .u64 100000000,.int .u64 1000000000,.int .u64 10000000000,.int .u64 100000000000,.int .u64 1000000000000,.int .u64 10000000000000,.int .u64 100000000000000,.int .u64 1000000000000000,.int .u64 10000000000000000,.int .u64 100000000000000000,.int .u64 1000000000000000000,.int .u64 10000000000000000000] t frozen
   | o=>o).modify 1 fun
   | .cells _ t frozen=>.cells #[.int .u8 0,.int .u8 1,.int .u8 28,.int .u8 2,.int .u8 29,.int .u8 14,.int .u8 24,.int .u8 3,.int .u8 30,.int .u8 22,.int .u8 20,.int .u8 15,.int .u8 25,.int .u8 17,.int .u8 4,.int .u8 8,.int .u8 31,.int .u8 27,.int .u8 13,.int .u8 23,.int .u8 21,.int .u8 19,.int .u8 16,.int .u8 7,.int .u8 26,.int .u8 12,.int .u8 18,.int .u8 6,.int .u8 11,.int .u8 5,.int .u8 10,.int .u8 9] t frozen
   | o=>o).modify 2 fun
   | .cells _ t frozen=>.cells #[.int .u8 0,.int .u8 1,.int .u8 56,.int .u8 2,.int .u8 57,.int .u8 49,.int .u8 28,.int .u8 3,.int .u8 61,.int .u8 58,.int .u8 42,.int .u8 50,.int .u8 38,.int .u8 29,.int .u8 17,.int .u8 4,.int .u8 62,.int .u8 47,.int .u8 59,.int .u8 36,.int .u8 45,.int .u8 43,.int .u8 51,.int .u8 22,.int .u8 53,.int .u8 39,.int .u8 33,.int .u8 30,.int .u8 24,.int .u8 18,.int .u8 12,.int .u8 5,.int .u8 63,.int .u8 55,.int .u8 48,.int .u8 27,.int .u8 60,.int .u8 41,.int .u8 37,.int .u8 16,.int .u8 46,.int .u8 35,.int .u8 44,.int .u8 21,.int .u8 52,.int .u8 32,.int .u8 23,.int .u8 11,.int .u8 54,.int .u8 26,.int .u8 40,.int .u8 15,.int .u8 34,.int .u8 20,.int .u8 31,.int .u8 10,.int .u8 25,.int .u8 14,.int .u8 19,.int .u8 9,.int .u8 13,.int .u8 8,.int .u8 7,.int .u8 6] t frozen
   | o=>o) }
noncomputable def jae:Array Value:=#[.int .u8 0,.slice none 0 0,.slice none 0 0]
theorem laid_met (d:Os):laidMet prog Rows.dividesOfRow.laid ((VA d).forCall (λ_ _=>0) ⟨#[],jae,[]⟩).memory :=
 laidMet_of_run' 8 Zk Zk
theorem reads (g:Os) {h:Type} (f:TypeId × Value->h):∃ d,DataW.whole f prog ((VA g).forCall (λ_ _=>0) ⟨#[],jae,[]⟩).memory f4.params.toList Rows.dividesOfSpec.vars false jae.toList 8=some ([.lit (.int .u8 0),.nil,.nil],[],d) :=
 ⟨[],Zk⟩
theorem lifted (i:Os) (g:i.Started) (aa:Type) (d:TypeId × Value->aa) (Z:Stop.Interp) :
  ReturnsInHanded {} Tryz.checked i 4 .any ((OpenSpec.ofChange Rows.dividesOfSpec).preRow d prog f4 Rows.dividesOfRow.domain false Rows.dividesOfRow.laid) (((OpenSpec.ofChange Rows.dividesOfSpec).at Z).post d prog f4 false true false false):=by
 obtain⟨u,I⟩:=reads i d
 refine returnsInHanded_of_row (C:=Tryz.checked) (s:=OpenSpec.ofChange Rows.dividesOfSpec) own g Zk func4
  (witness_row_at (enc:=d) (C:=Tryz.checked) false (VA i) jae rfl Zk Zk Zk
   (OpenSpec.preRow_of_cond 8 I Zk (λk H=>by cases H) Zk (laid_met i))) ?_
 intro W base h A gs m j r _ _ _ _ _ _;have f:∀ (X:Nat) Y v,f4.params[X]?=some Y->h[X]?=some v->Value.okWide prog W .any base Y v:=j;have t:=r;obtain⟨ab,q,p,F,rfl,U,V⟩:=r;have o:DataW.TrodAll d prog W 0 (λ_=>true) true f4.params.toList h.toList A ab:=p;rw[Tryz.params4] at o f;obtain⟨M,O,Q,d0,d1,d2,p0,p1,p2,rfl,rfl,rfl,B,D,E⟩:=trodAll_three o;obtain⟨rfl,rfl⟩:=trodVars_none F;obtain⟨T,rfl,-,-,x⟩:=open_int underlying24 (f 0 24 M rfl rfl) B;obtain⟨S,y,rfl,K⟩:=jhx (f 1 23 O rfl rfl) D;obtain⟨z,J,c2,l,rfl,L⟩:=jex (f 2 40 Q rfl rfl) E
 refine(jbb T S y z J c2 l W (jlm x) K L).mono λe W' ⟨G,hg⟩=>?_
 subst G;exact⟨_,rfl,LawPost.law_post laidOut Zk Zk underlying4 t rfl rfl hg⟩
theorem k4:mapsRowed prog=true:=by kernel_rfl
theorem k10:(Rows.dividesOfRow.inPlace==prog.inPlace 4)=true:=by kernel_rfl
theorem k11:(Rows.dividesOfRow.unfollowed==prog.unfollowed 4)=true:=by kernel_rfl
theorem k12:(Rows.dividesOfRow.recurses==prog.recurses 4)=true:=by kernel_rfl
theorem k13:(Rows.dividesOfRow.named==prog.varsNamed 4)=true:=by kernel_rfl
theorem closed:joinedFacts prog 4 f4 (OpenSpec.ofChange Rows.dividesOfSpec).bare Rows.dividesOfRow=true:=by
 unfold joinedFacts;rw[laidOut,k4,k10,k11,k12,k13]
 kernel_rfl
theorem said:Rows.DividesOfSaid :=
 OpenClaim.holds_of_cond 4 f4 rfl rfl rfl rfl rfl rfl rfl ⟨rfl,rfl,rfl,rfl,rfl⟩ rfl rfl rfl rfl rfl Zk func4 closed
  (of_decide_eq_true Zk) (by unfold Func.isWrapper;first | (rw[if_pos (by decide +kernel)];kernel_rfl) | (rw[if_neg (by decide +kernel)];exact⟨rfl,rfl⟩))
  (λg d i f _ h=>by rw[OpenClaim.pre_eq_preRow];exact lifted g d i f h)
theorem plain (f : FuncId) (d : Func) (j : Tryz.pinned.checked.prog.funcNamed "reckoner/reckonerlaw05.DividesOf" = some f) (h : Tryz.pinned.checked.prog.funcs[f]? = some d) :
  false=Tryz.pinned.checked.prog.looks []/\∀ (l:Nat) g,d.params[l]?=some g->Tryz.pinned.checked.prog.wantsStandIn g=false:=by
 obtain rfl : f = 4 := Option.some.inj ((show prog.funcNamed "reckoner/reckonerlaw05.DividesOf" = some 4 by kernel_rfl).symm.trans j) |>.symm
 obtain rfl:d=f4:=(Option.some.inj (func4.symm.trans h)).symm;refine⟨Zk,λl g i=>?_⟩;rw[Tryz.params4] at i
 have k:g=24\/g=23\/g=40:=by simpa using Array.mem_of_getElem? i
 rcases k with rfl | rfl | rfl
 ·exact(show prog.wantsStandIn 24=false by kernel_rfl)
 ·exact(show prog.wantsStandIn 23=false by kernel_rfl)
 ·exact(show prog.wantsStandIn 40=false by kernel_rfl)
theorem card:Rows.DividesOfCardSaid :=
 Claim7.holds_tied_plain_at .later [] _ _ _ _ said (λ_ d=>by cases d) Zk (λ_ d=>by cases d) dividesOf_row_tie rfl ⟨rfl,rfl⟩ Zk rfl plain Zk
#print axioms card
end DividesOfC
end Limb
end Go.Proofs.YthacfgmdihcffaaGreatDoor
