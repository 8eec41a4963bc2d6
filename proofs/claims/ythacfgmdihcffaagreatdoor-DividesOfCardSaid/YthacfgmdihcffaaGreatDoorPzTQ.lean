/-
  The walks of reckonerref04.Check and Fit: whether a row of terms may be.
-/
import Derived.Test.YthacfgmdihcffaaGreatDoorPzTP
import Derived.Lib.EndianBits
set_option linter.unusedSimpArgs false
set_option linter.unusedVariables false
set_option maxHeartbeats 16000000
set_option maxRecDepth 100000
open Go.Proofs.Tryz
namespace Go.Proofs.YthacfgmdihcffaaGreatDoor
namespace Pol
open Go.RowKit Go.Sort Limb
variable {w w':World} {x y:FV} {p q:Rat} {b lo:Nat}
def moF (m:Mo):Nat->Int:=λi=>((m.at i:Nat):Int)
theorem Qd {a:Mo} (c:a.Small):Mono.Small (moF a):=λd _=>⟨Int.natCast_nonneg _,by have:=jf4 c d;unfold moF;omega⟩
theorem Vg (a b:Mo) (c:Nat):moF (a.mul b) c=moF a c+moF b c:=by unfold moF;rw[at_mul];omega
def JN (o:Int) (m:Mo):Int:=Mono.KO o (moF m)
theorem Kz (o:Int):Key 65535 (JN o) where
 add a b ha hb hab:=by
  have d:Mono.Yg (moF a) (moF b)=true:=decide_eq_true (by
   obtain⟨c,j,l,m⟩:=hab;rw[<- Vg,<- Vg,<- Vg,<- Vg];show((a.mul b).x:Int)<=65535/\((a.mul b).y:Int)<=65535/\((a.mul b).z:Int)<=65535/\((a.mul b).t:Int)<=65535
   omega)
  have g:=Mono.KO_mul (o:=o) d;unfold JN;rw[<- g]
  congr 1
  funext i;unfold Mono.mulM;rw[if_pos d,Vg]
 inj a b ha hb g:=by
  have c:=(Mono.KO_same (Qd (show a.Small from ha)) (Qd (show b.Small from hb))).1 g;rw[Mo.eq_iff]
  have f:=λk h=>Int.ofNat.inj (show((a.at k:Nat):Int)=((b.at k:Nat):Int) from c k h)
  exact⟨f 0 Zo,f 1 Zo,f 2 Zo,f 3 Zo⟩
theorem ZX {a b:Int}:Mono.Js a b>0↔b<a:=by
 rcases Int.lt_trichotomy a b with c | c | c
 ·rw[Mono.JK c];omega
 ·rw[Mono.J7 c];omega
 ·rw[Mono.JS c];omega
theorem max_any (ab:Nat) (cs:Array Value) (x:PV) (h:List TV) (z:Mo->Int) (u:World) (hr:RT u x.a h) (hl:h.length=x.n) (hn:x.n<=1000000) (M:h≠[]) (hs:∀ g∈h,g.m.Small)
  (aP:∀ (E:Array Value) (u:World),(callFunc ab E).run prog u=.ok (.enter ab E) u)
  (hF:∀ g j:TV,g.m.Small->j.m.Small->∀ w1,Bl u w1->Cl ab (#[TV.v g,TV.v j]++cs) w1 λe w'=>e=.returned (.int .i64 (Mono.Js (z g.m) (z j.m)))/\Bl w1 w') :
  Cl 31 #[x.v,.func (.func ab) #[] cs] u λe w'=>∃ g,g∈h/\(∀ j∈h,z j.m<=z g.m)/\e=.returned (TV.v g)/\Bl u w':=by
 obtain⟨xa,i,xc⟩:=x;change Cl 31 #[.slice xa i xc,.func (.func ab) #[] cs] u _;have HL:=qh<|show h.length=i from hl;have HN:=qh<|show i<=1000000 from hn;have HS:=qh hs;have HF:=qh hF;obtain⟨pb,po,rfl,hc⟩:=RT.one hr M;have HE:=qh hc;have HP:=qh (show 0<i by rw[<- HL.o];exact List.length_pos_iff.2 M);obtain⟨U,N⟩:∃ g,h[0]?=some g:=⟨_,List.getElem?_eq_getElem (List.length_pos_iff.2 M)⟩;have V:=qh N;have f:¬((i:Int)<1):=Zh HP;obtain⟨ay,T⟩:=gn (u.alloc (.cells zTv.toArray 37));have I:=bq T (zk.alloc zj _);have B4:=qh<|al T;have E0:=qh<|(hc 0 U N).below I;have a:=qh I;have HV:=qh T;have af:(0:Int)<(i:Int):=Zh HP;clear hr hl hn hs hF hc N T I;go_enter func31,ntmps31
 go_upto_region 1 with (fail)
 rw[<- HV.o];obtain⟨c0,c1,c2,c3,c4,c5,P,Q⟩:=E0.o.eight;simp only[Nat.zero_mul,Nat.add_zero] at c0 c1 c2 c3 c4 c5 P Q
 go_upto_region 4 with (fail)
 obtain⟨aU,S⟩:=gn (ay.alloc (.cells (cTv U.c U.m).toArray 37));have H:=bq S (zk.alloc zj _);have d:=qh<|al S;obtain⟨A1,G⟩:=gn u.heap.size;obtain⟨A2,o⟩:=gn ay.heap.size;have ac:=qh (show u.heap.size<=A1 by omega);have ad:=qh (show u.heap.size<=A2 by rw[o];exact a.o.size);have c:=qh (show A1≠A2 by have:=B4.o.lt;omega);have B4:=qh<|B4.o.bl H;have a:=qk a H;rw[<- S,<- o,<- G];rw[<- o] at d;rw[<- G] at B4;clear S H G o c0 c1 c2 c3 c4 c5 P Q f af;go_wp2;go_loopw [6] (λl wr=>∃ (k:Nat) (g:TV),1<=k/\k<=i/\l=.int .i64 k/\g∈h/\(∀ l j,h[l]?=some j->l<k->z j.m<=z g.m)/\Bxs wr A2 37 (cTv g.c g.m)/\Bxs wr A1 37 zTv/\Bl u wr) (λl _=>i-(intOf l).toNat)
 case atStart =>
  refine⟨1,U,zj,HP.o,rfl,List.mem_of_getElem? V.o,λl j f h2=>?_,d.o,B4.o,a.o⟩;obtain rfl:l=0:=Zo;rw[V.o] at f;obtain rfl:=Option.some.inj f;exact Int.le_refl _
 case round =>
  obtain⟨k,g,aa,hj,rfl,L,K,X,W,Y⟩:=hrel;have ax:=qh aa;have HJ:=qh hj;have C:=qh L;have D:=qh K;have d:=qh X;have B4:=qh W;have a:=qh Y;clear aa hj L K X W Y;by_cases J:k<i
  ·have m:=qh J;obtain⟨j,t⟩:∃ j,h[k]?=some j:=⟨_,List.getElem?_eq_getElem (by rw[HL.o];exact J)⟩;have O:=qh t;have E1:=qh<|(HE.o k j t).below a.o;have ag:=qh<|HS.o g C.o;have ah:=qh<|HS.o j (List.mem_of_getElem? t);obtain⟨F,Z⟩:=gn (Mono.Js (z j.m) (z g.m));have B:=qh Z;have ek:IntKind.i64.wrap ((k:Int)+1)=(k:Int)+1:=IntWalk.i64_in _ (Zi m HN);clear t Z
   go_upto_region 7 with (fail)
   refine FS.Jd 7 [] (FS.JI [(6,FS.Sp.know (.int .i64 F))])
    (λw'=>Bl wr w') Zk Zk Zk
    (FS.Jb (FS.Sp.Jk _ _) (FS.Jh)) (λ_ _ R n=>R.trans (n.mono R.size)) (zk.drew) ?_
   simp only[zu,zi,ze,zx,zy,zv,zw]
   iterate 6
    refine FS.rdw (λw' r=>by obtain⟨aj,ak,am,an,ao,aq,ar,au⟩:=(E1.o.below r).eight;obtain⟨aj,ak,am,an,ao,aq,ar,au,aR,aS⟩:=(d.o.bl r).d8;go_simp;try rfl) ?_
   refine FS.Jc rfl rfl rfl (λw' av=>?_) ?_
   ·have r:=av.world;refine FS.Jm (FS.PK (.int .i64 F)) ?_ (λ_ _ R=>R.post);go_simp;have CT:=HF.o j g ah.o ag.o w' (a.o.trans (r.mono a.o.size));rw[<- B.o] at CT;refine CT.mono ?_;rintro e aT ⟨rfl,n⟩;exact⟨_,rfl,rfl,n⟩
   rintro _ rfl
   conv=>arg 10;simp only[Act.put,zq0,zq1,zq2]
   refine FS.Jn (λaw n hF=>?_);clear hF;have d:=qh<|d.o.bl n;have B4:=qh<|B4.o.bl n;have a:=qk a n;clear n;by_cases s:F>0
   ·have ai:0<F:=s;have A:=qh s;have E1:=qh<|(HE.o k j O.o).below a.o;obtain⟨c0,c1,c2,c3,c4,c5,P,Q⟩:=E1.o.eight;have cf:=d.o.fz;have cl:=d.o.lt;obtain⟨aH,aI,aJ,aK,aL,aM,aN,aO⟩:=d.o.c8;go_wp2;go_roundw
    case rel =>
     refine⟨k+1,j,Zo,Zh m,rfl,List.mem_of_getElem? O.o,λl v f h2=>?_,J9 d.o ..,?_,J5 a.o ad.o ..⟩
     ·have h3:z g.m<z j.m:=ZX.1 (by rw[<- B.o];exact A.o);by_cases h4:l<k
      ·have:=D.o l v f h4;omega
      ·obtain rfl:l=k:=Zo;rw[O.o] at f;obtain rfl:=Option.some.inj f;exact Int.le_refl _
     ·exact((((((((B4.o.other c.o _).other c.o _).other c.o _).other c.o _).other c.o _).other c.o _).other c.o _).other c.o _)
    case measure=>simp[intOf];have:=m.o;omega
   ·have ai:¬(0<F):=s;have A:=qh s;go_wp2;go_roundw
    case rel =>
     refine⟨k+1,g,Zo,Zh m,rfl,C.o,λl v f h2=>?_,d.o,B4.o,a.o⟩;by_cases h4:l<k
     ·exact D.o l v f h4
     ·obtain rfl:l=k:=Zo;rw[O.o] at f;obtain rfl:=Option.some.inj f
      have h3:¬(z g.m<z j.m):=λR=>A.o (by rw[B.o];exact ZX.2 R)
      omega
    case measure=>simp[intOf];have:=m.o;omega
  ·have aQ:¬((k:Int)<(i:Int)):=Zo;have ae:=qh (show k=i by have:=HJ.o;omega);clear J;obtain⟨c0,c1,c2,c3,c4,c5,P,Q⟩:=d.o.c8;have cf:=B4.o.fz;have cl:=B4.o.lt;obtain⟨az,aA,aB,aC,aD,aE,aF,aG⟩:=B4.o.c8;go_wp2;refine bodyPost_ret (Je rfl _ _ _ _ _ _ _ rfl (J9 B4.o ..) underlying37 rfl Zk) rfl ⟨g,C.o,λj t=>?_,rfl,J5 a.o ac.o ..⟩;obtain⟨l,R⟩:=List.mem_iff_getElem?.1 t;exact D.o l j R (by have h8:=(List.getElem?_eq_some_iff.1 R).1;have h5:=HL.o;have h9:=ae.o;omega)
theorem jk7 (o:Int) (a c:TV) (h:World) (j:Nat) (d:Bxs h j 24 [.int .u8 o]) (k:a.m.Small) (l:c.m.Small) :
  Cl 32 #[TV.v a,TV.v c,.pointer (some ⟨j,0,none⟩)] h λe w'=>e=.returned (.int .i64 (Mono.Js (JN o a.m) (JN o c.m)))/\Bl h w':=by
 obtain⟨O,f⟩:=gn ((h.alloc (.cells (cTv a.c a.m).toArray 37)).alloc (.cells (cTv c.c c.m).toArray 37));have g:=bq f ((zk.alloc zj _).alloc (by go_size) _);have J:=qh<|bz f ((Bxs.new h 37 (cTv a.c a.m)).alloc _)
 have K:=qh (show Bxs O (h.heap.size+1) 37 (cTv c.c c.m) by
  have Q:=Bxs.new (h.alloc (.cells (cTv a.c a.m).toArray 37)) 37 (cTv c.c c.m);rw[World.size_alloc] at Q;rw[f]
  exact Q)
 have L:=qh<|d.below g d.lt;have i:=qh g;have N:=qh f;have m:=qh<|show Cl 33 #[.int .u8 o,Mo.v a.m,Mo.v c.m] O _ from Mono.Y7 o (moF a.m) (moF c.m) O (Qd k) (Qd l);have M:=qh<|Mono.jiv (o:=o) (Qd k) (Qd l);clear f g d k l;change Cl 32 #[.agg #[.bool a.c.t.s,.slice a.c.t.a a.c.t.n a.c.t.c,.bool a.c.l.s,.slice a.c.l.a a.c.l.n a.c.l.c,.int .u16 a.m.x,.int .u16 a.m.y,.int .u16 a.m.z,.int .u16 a.m.t],.agg #[.bool c.c.t.s,.slice c.c.t.a c.c.t.n c.c.t.c,.bool c.c.l.s,.slice c.c.l.a c.c.l.n c.c.l.c,.int .u16 c.m.x,.int .u16 c.m.y,.int .u16 c.m.z,.int .u16 c.m.t],.pointer (some ⟨j,0,none⟩)] h _;go_enter func32,ntmps32
 go_upto_region 1 with (fail)
 rw[<- N.o];obtain⟨n,r,s,t,u,v,z,A⟩:=J.o.c8;obtain⟨B,C,D,E,F,G,H,I⟩:=K.o.c8;have P:=L.o.ce 0;go_wp2_with fail
 with_reducible refine m.o.mono ?_
 rintro e R ⟨rfl,d⟩;have i:=qk i d;clear d m n r s t u v z A B C D E F G H I P;go_wp2;go_ret;refine⟨?_,i.o⟩;rw[M.o];rfl
theorem jh7 (o:Int) (g:PV) (am:List Tm) (r:World) (hx:AP r g am) (hp:∀ d∈am,LQ d.2 900000) (hn:g.n<=1000000) (ag:am≠[]) :
  Cl 8 #[.int .u8 o,g.v] r λe w'=>∃ (y:FV) (d:Tm),e=.returned (.tuple #[TV.v ⟨y,d.1⟩,.bool true])/\DF w' r.heap.size y d.2/\Zr (JN o) am d/\Bl r w':=by
 obtain⟨V0,j⟩:=gn ((r.alloc (.cells #[.int .u8 o] 24)).alloc (.cells zTv.toArray 37));have I:=bq j ((zk.alloc zj _).alloc (by go_size) _);have BO:=qh<|bz j ((Bxs.new r 24 [.int .u8 o]).alloc _)
 have B4:=qh (show Bxs V0 (r.heap.size+1) 37 zTv by
  have t:=Bxs.new (r.alloc (.cells #[.int .u8 o] 24)) 37 zTv;rw[World.size_alloc] at t;rw[j]
  exact t)
 have OF:=qh<|of_at hx I hp Zo;have HP:=qh hp;have HN:=qh hn;have ao:=qh ag;have i:=qh I;have HV:=qh j;obtain⟨N,H⟩:=gn (r.heap.size+1);have S:=qh (show r.heap.size<=N by omega);rw[<- H] at B4;have an:=qh H;obtain⟨xa,xn,xc⟩:=g;change Cl 8 #[.int .u8 o,.slice xa xn xc] r _;clear j I hx hp hn ag H;go_enter func8,ntmps8
 go_upto_region 1 with (fail)
 rw[<- HV.o,<- an.o];go_wp2_with fail
 with_reducible refine OF.o.mono ?_
 rintro e w1 ⟨⟨pa,Q,pc⟩,l,J,ah,c⟩;obtain rfl:e=.returned (.slice pa Q pc):=l;have BO:=qh<|BO.o.bl c;have B4:=qh<|B4.o.bl c;have i:=qk i c;have HX:=qh J;obtain⟨aG,g1,O,g3,P⟩:=J.ex;have O:aG.length=Q:=O
 have u:aG≠[]:=λt=>ao.o (by rw[<- P,t];rfl)
 have K:aG.map Prod.fst≠[]:=λt=>u (List.map_eq_nil_iff.1 t)
 have h0:¬((Q:Int)=0):=by have:=List.length_pos_iff.2 u;omega
 have T1:=qh P;have F1:=qh g3
 have af:∀ (G:Array Value) (r:World),(callFunc 32 G).run prog r=.ok (.enter 32 G) r:=λ_ _=>Zk
 have MX:=qh (max_any 32 #[.pointer (some ⟨r.heap.size,0,none⟩)] ⟨pa,Q,pc⟩ (aG.map Prod.fst) (JN o) w1 (g1.below i.o) (by rw[List.length_map];exact O) (zm ah HN.o) K
  (λd D=>by
   obtain⟨e,l,rfl⟩:=List.mem_map.1 D
   exact HX.o.small (tm e) (by rw[<- P];exact List.mem_map_of_mem l))
  af (λd aH D hu w2 au=>jk7 o d aH w2 r.heap.size (BO.o.bl au) D hu))
 clear J ah c g1 O g3 P OF u K af;go_wp2_with fail
 with_reducible refine MX.o.mono ?_
 rintro e w2 ⟨d,ai,aj,rfl,c⟩;have B4:=qh<|B4.o.bl c;have i:=qk i c;obtain⟨⟨R,q⟩,l,e1⟩:=List.mem_map.1 ai;obtain rfl:R=d:=e1
 have v:(R.m,q)∈am:=by rw[<- T1.o];exact List.mem_map_of_mem l
 have T:=qh (show Zr (JN o) am (R.m,q) from⟨v,λaI hs=>by
  rw[<- T1.o] at hs;obtain⟨e,l,rfl⟩:=List.mem_map.1 hs
  exact aj e.1 (List.mem_map_of_mem l)⟩)
 have U:=qh<|HP.o _ v;have F:=qh<|F1.o _ l;obtain⟨d,D⟩:=gn R;rw[<- D] at T F ⊢;clear ai aj c l v MX D h0;obtain⟨V,W,X,Y,Z,aa,ab,ac,ad,ae⟩:=B4.o.d8
 go_upto_region 5 with (fail)
 clear V W X Y Z aa ab ac ad ae;obtain⟨M,j⟩:=gn (Xr w2 N (.bool d.c.t.s) (.slice d.c.t.a d.c.t.n d.c.t.c) (.bool d.c.l.s) (.slice d.c.l.a d.c.l.n d.c.l.c) (.int .u16 d.m.x) (.int .u16 d.m.y) (.int .u16 d.m.z) (.int .u16 d.m.t));have B4:=qh<|bz j (J9 B4.o ..);have i:=qh<|bq j (J5 i.o S.o ..);unfold Xr at j;rw[<- j];have NT:=qh<|show KF M d.c q from F.o.below i.o;have aq:=qh<|show r.heap.size<=M.heap.size from i.o.size;clear j F;obtain⟨k,m⟩:=gn ((1:Int):Rat);have A:=qh m;have s:=qh (show LQ k 3 by rw[m];exact LQ.int Ze Ze);clear m;obtain⟨h,n⟩:=gn (q*k:Rat);have B:=qh n;have ar:=qh (show LQ h 1800000 by rw[n];exact LQ.mul (U.o.up (by decide:_<=900000)) (s.o.up (by decide:_<=900000)) Ze);clear n
 go_upto_region 5 with (fail)
 refine FS.Jd 7 [] (FS.JI [(2,FS.Sp.made (λg:FV=>g.v) (λg w'=>DF w' M.heap.size g k) FV.blk),(3,FS.Sp.made (λg:FV=>g.v) (λg w'=>DF w' M.heap.size g h) FV.blk)])
  (λw'=>Bl M w') Zk Zk Zk
  (FS.Jb (FS.Sp.Jf _ (λ_ _ _ t _ hk=>t.kept hk) (FS.JG Zk)) (FS.Jb (FS.Sp.Jf _ (λ_ _ _ t _ hk=>t.kept hk) (FS.JG Zk)) (FS.Jh))) (λ_ _ t c=>t.trans (c.mono t.size)) (zk.drew) ?_
 simp only[zu,zi,ze,zx,zy,zv,zw]
 iterate 2
  refine FS.rdw (λw' f=>by obtain⟨av,aw,ax,ay,az,aA,aB,aC,aD,aE⟩:=(B4.o.bl f).d8;go_simp;try rfl) ?_
 refine FS.Jc rfl rfl rfl (λw' C=>?_) ?_
 ·have f:=C.world;refine FS.Jm (FS.PM (λg:FV=>g.v) (λg w'=>DF w' M.heap.size g k) FV.blk w'.heap.size) ?_ (λ_ _ t=>t.post (λ_ _=>FV.inj));go_simp;have E:=qof 1 w' Ze Ze;rw[<- A.o] at E;refine E.mono ?_;rintro e aF ⟨za,rfl,L,c⟩;exact⟨_,rfl,⟨za,rfl,L.mono f.size,L.QV⟩,c⟩
 rintro _ ⟨y2,rfl⟩
 conv=>arg 10;simp only[Act.put,zq0,zq1,zq2]
 refine FS.Jc rfl rfl rfl (λw' C=>?_) ?_
 ·have f:=C.world;refine FS.Jm (FS.PM (λg:FV=>g.v) (λg w'=>DF w' M.heap.size g h) FV.blk w'.heap.size) ?_ (λ_ _ t=>t.post (λ_ _=>FV.inj));go_simp;have f2:=FS.JQ (val:=(λg:FV=>g.v)) (Φ:=λg w'=>DF w' M.heap.size g k) (λ_ _=>FV.inj) (C.fact 2 Zk);have E:=qmul ((NT.o.below f)).any (((NT.o.below f)).len U.o (by decide:_<=900000)) (f2).k.any (((f2).k).len s.o (by decide:_<=900000));rw[<- B.o] at E;refine E.mono ?_;rintro e aF ⟨za,rfl,L,c⟩;exact⟨_,rfl,⟨za,rfl,L.mono f.size,L.QV⟩,c⟩
 rintro _ ⟨a,rfl⟩
 conv=>arg 10;simp only[Act.put,zq0,zq1,zq2]
 iterate 3
  refine FS.rdw (λw' f=>by obtain⟨av,aw,ax,ay,az,aA,aB,aC,aD,aE⟩:=(B4.o.bl f).d8;go_simp;try rfl) ?_
 refine FS.Jn (λz c hF=>?_);have ak:=qh<|show DF z M.heap.size a h from(FS.JQ (val:=(λg:FV=>g.v)) (Φ:=λg w'=>DF w' M.heap.size g h) (λ_ _=>FV.inj) (hF.all 3));clear hF;have B4:=qh<|B4.o.bl c;have i:=qk i c;clear c;have HQ:=qh (show h=q by rw[B.o,A.o];grind);have HD:=qh (show DF (Xr z N (.bool a.t.s) (.slice a.t.a a.t.n a.t.c) (.bool a.l.s) (.slice a.l.a a.l.n a.l.c) (.int .u16 d.m.x) (.int .u16 d.m.y) (.int .u16 d.m.z) (.int .u16 d.m.t)) r.heap.size a q from by rw[<- HQ.o];exact jdw (ak.o.mono aq.o) B4.o Ze ..);have HB:=qh<|show Bl r (Xr z N (.bool a.t.s) (.slice a.t.a a.t.n a.t.c) (.bool a.l.s) (.slice a.l.a a.l.n a.l.c) (.int .u16 d.m.x) (.int .u16 d.m.y) (.int .u16 d.m.z) (.int .u16 d.m.t)) from J5 i.o S.o ..;obtain⟨V,W,X,Y,Z,aa,ab,ac,ad,ae⟩:=B4.o.d8;go_wp2_with fail
 exact bodyPost_ret (Qo rfl _ _ _ _ _ _ _ rfl (J9 B4.o ..) underlying37 rfl Zk) rfl ⟨a,(d.m,q),rfl,HD.o,T.o,HB.o⟩
theorem lead_nil (o:Int) (s:PV) (f:World) (n:AP f s []) (B:s.n<=1000000) :
  Cl 8 #[.int .u8 o,s.v] f λe w'=>e=.returned (.tuple #[.agg #[.bool false,.slice none 0 0,.bool false,.slice none 0 0,.int .u16 0,.int .u16 0,.int .u16 0,.int .u16 0],.bool false])/\Bl f w':=by
 obtain⟨v,d⟩:=gn ((f.alloc (.cells #[.int .u8 o] 24)).alloc (.cells zTv.toArray 37));have c:=bq d ((zk.alloc zj _).alloc (by go_size) _)
 have B4:=qh (show Bxs v (f.heap.size+1) 37 zTv by
  have S:=Bxs.new (f.alloc (.cells #[.int .u8 o] 24)) 37 zTv;rw[World.size_alloc] at S;rw[d]
  exact S)
 have l:=qh<|of_at n c (λU C=>by cases C) Zo;have h:=qh c;have u:=qh d;obtain⟨t,a⟩:=gn (f.heap.size+1);have j:=qh (show f.heap.size<=t by omega);rw[<- a] at B4;have k:=qh a;obtain⟨F,H,G⟩:=s;change Cl 8 #[.int .u8 o,.slice F H G] f _;clear d c n B a;go_enter func8,ntmps8
 go_upto_region 1 with (fail)
 rw[<- u.o,<- k.o];go_wp2_with fail
 with_reducible refine l.o.mono ?_
 rintro e T ⟨⟨D,r,E⟩,A,g,m,i⟩;obtain rfl:e=.returned (.slice D r E):=A;have B4:=qh<|B4.o.bl i;have h:=qk h i;have z:=g.len;obtain rfl:r=0:=z;clear g m i l;obtain⟨I,J,K,L,M,N,O,P,Q,R⟩:=B4.o.d8;go_wp2_with fail
 exact bodyPost_ret (Qo rfl _ _ _ _ _ _ _ rfl (J9 B4.o ..) underlying37 rfl Zk) rfl ⟨rfl,J5 h.o j.o ..⟩
def put4 (w:World) (b:Nat) (v0 v1 v2 v3:Value):World:=(((w.setCell ⟨b,0,none⟩ v0).setCell ⟨b,1,none⟩ v1).setCell ⟨b,2,none⟩ v2).setCell ⟨b,3,none⟩ v3
theorem jga {k:TypeId} {g h i j:Value} (l:Bxs w b k [g,h,i,j]) (a c d f:Value):Bxs (put4 w b a c d f) b k [a,c,d,f]:=(((l.put 0 a).put 1 c).put 2 d).put 3 f
theorem put4_kf {v:TypeId} {l m n o:Value} (u:KF w x q) (d:Bxs w b v [l,m,n,o]) (t:Zp l=true) (k:Zp m=true) (i:Zp n=true) (f:Zp o=true) {a c g r:Value} (h:Zp a=true) (j:Zp c=true) (s:Zp g=true):KF (put4 w b a c g r) x q :=
 (((u.Jt d (by simp[t,k,i,f]) 0 a).Jt (d.put 0 a) (by simp[h,k,i,f]) 1 c).Jt ((d.put 0 a).put 1 c) (by simp[h,j,i,f]) 2 g).Jt (((d.put 0 a).put 1 c).put 2 g) (by simp[h,j,s,f]) 3 r
theorem U0 {h:Nat} {i:World} (j:Below h i w) (a:h<=b) (c d f g:Value):Below h i (put4 w b c d f g):=(((j.setCell a c).setCell a d).setCell a f).setCell a g
theorem U1 {k:Nat} (d:LQ q k):∀ a:Nat,LQ (q ^ a) (a*k+1)
 | 0=>by
  have c:LQ ((1:Int):Rat) 1:=by constructor <;> decide +kernel
  rw[Rat.pow_zero,Nat.zero_mul,Nat.zero_add]
  exact c
 | a+1=>by
  rw[Rat.pow_succ];exact((U1 d a).ls.mul d.ls).lq (by rw[Nat.add_mul];omega) (by rw[Nat.add_mul];omega)
structure EF (w:World) (lo:Nat) (x:FV) (q:Rat):Prop where
 t:DN w lo x.t q.num
 l:DN w lo x.l (q.den:Int)
theorem EF.below (c:EF w lo x q) (a:Bl w w'):EF w' lo x q:=⟨c.t.below a,c.l.below a⟩
theorem EF.mono {a:Nat} (d:EF w lo x q) (c:a<=lo):EF w a x q:=⟨d.t.mono c,d.l.mono c⟩
theorem EF.k (a:EF w lo x q):KF w x q:=⟨a.t.k,a.l.k⟩
theorem EF.kept (d:EF w lo x q) (c:∀ b,FV.blk x b->w'.heap[b]?=w.heap[b]?):EF w' lo x q:=⟨d.t.kept λb a=>c b (Or.inl a),d.l.kept λb a=>c b (Or.inr a)⟩
theorem EF.QV (c:EF w lo x q):∀ b,FV.blk x b->lo<=b/\b<w.heap.size:=λb a=>a.elim (c.t.QV b) (c.l.QV b)
theorem EF.Jt (g:EF w lo x q) {f:Nat} {h:TypeId} {i:List Value} (a:Bxs w f h i) (c:128≠h) (d:Nat) (v:Value):EF (w.setCell ⟨f,d,none⟩ v) lo x q:=⟨g.t.Jt a c d v,g.l.Jt a c d v⟩
def RKV (w:World) (q:Rat) (e:Ending) (w':World):Prop:=∃ y:FV,e=.returned y.v/\EF w' w.heap.size y q/\Bl w w'
theorem K8.rkv {e:Ending} (h:K8 w q.num (q.den:Int) e w'):RKV w q e w':=by
 obtain⟨a,c1,c,c2,rfl,f,g,d⟩:=h;exact⟨⟨⟨_,a,_,c1⟩,⟨_,c,_,c2⟩⟩,rfl,⟨⟨rfl,rfl,f⟩,⟨rfl,rfl,g⟩⟩,d⟩
theorem raddV (a:AF w x p) (o:LF x 900000) (c:AF w y q) (r:LF y 900000):Cl 156 #[x.v,y.v] w (RKV w (p+q)):=by
 obtain⟨g,h,k,l,d⟩:=a.ex;obtain⟨i,j,m,n,f⟩:=c.ex
 exact(jkh x.t.s x.t.a x.t.n x.t.c g x.l.s x.l.a x.l.n x.l.c h y.t.s y.t.a y.t.n y.t.c i y.l.s y.l.a y.l.n y.l.c j w p q d.symm f.symm k Zo a.l1 l Zo a.l2 m Zo c.l1 n Zo c.l2).mono λ_ _ s=>K8.rkv s
theorem rmulV (a:AF w x p) (o:LF x 900000) (c:AF w y q) (r:LF y 900000):Cl 152 #[x.v,y.v] w (RKV w (p*q)):=by
 obtain⟨g,h,k,l,d⟩:=a.ex;obtain⟨i,j,m,n,f⟩:=c.ex
 exact(jki x.t.s x.t.a x.t.n x.t.c g x.l.s x.l.a x.l.n x.l.c h y.t.s y.t.a y.t.n y.t.c i y.l.s y.l.a y.l.n y.l.c j w p q d.symm f.symm k Zo a.l1 l Zo a.l2 m Zo c.l1 n Zo c.l2).mono λ_ _ s=>K8.rkv s
theorem rnegV (a:AF w x p) (i:LF x 900000):Cl 108 #[x.v] w (RKV w (-p)):=by
 obtain⟨d,f,g,h,c⟩:=a.ex
 exact(jkg x.t.s x.t.a x.t.n x.t.c d x.l.s x.l.a x.l.n x.l.c f w p c.symm g Zo a.l1 h Zo a.l2).mono λ_ _ j=>K8.rkv j
theorem V8 (a:AF w x p) (i:LF x 900000):Cl 150 #[x.v] w λe w'=>e=.returned (.int .i64 (Js p.num 0))/\Bl w w':=by
 obtain⟨d,f,g,h,c⟩:=a.ex;exact jhi x.t.s x.t.a x.t.n x.t.c d x.l.s x.l.a x.l.n x.l.c f w p c.symm g Zo a.l1 h Zo a.l2
theorem rofV (n:Int) (d:World) (a:-9223372036854775808<=n) (c:n<=9223372036854775807):Cl 93 #[.int .i64 n] d (RKV d (n:Rat)) :=
 (jf0 n d a c).mono λ_ _ f=>K8.rkv (q:=(n:Rat)) (by rw[Rat.num_intCast,Rat.den_intCast];exact f)
open Classical in
theorem U2 (a:KF w x p) (d:LF x 900000):Cl 149 #[x.v] w λe w'=>e=.returned (.bool true)/\Bl w w':=by
 have c:=Xf x.t.s x.t.a x.t.n x.t.c _ x.l.s x.l.a x.l.n x.l.c _ w a.t.rd Zo a.t.le a.l.rd Zo a.l.le;rw[decide_eq_true (by rw[a.t.s,a.t.n,a.l.s,a.l.n];exact XT p)] at c;exact c
open Classical in
theorem rcheckVB (a:BF w x) (j:LF x 900000):Cl 149 #[x.v] w λe w'=>e=.returned (.bool false)/\Bl w w':=by
 obtain⟨d,f,g,h,c⟩:=a.ex;have i:=Xf x.t.s x.t.a x.t.n x.t.c d x.l.s x.l.a x.l.n x.l.c f w g Zo a.l1 h Zo a.l2;rw[zo c] at i;exact i
theorem jed (o:Int) (a b:Mo) (f:World) (c:a.Small) (d:b.Small):Cl 37 #[.int .u8 o,Mo.v a,Mo.v b] f λe w'=>e=.returned (.int .i64 (Mono.Js (JN o a) (JN o b)))/\Bl f w':=by
 have g:=Mono.rcmp_any o (moF a) (moF b) f (Qd c) (Qd d);rw[Mono.jiv (o:=o) (Qd c) (Qd d)] at g;exact g
theorem U3 {a b:Mo} (f:a.Small) (g:b.Small):a.lt b↔JN 0 a<JN 0 b:=by
 have d:∀ c:Mo,JN 0 c=(c.x:Int)*281474976710656+(c.y:Int)*4294967296+(c.z:Int)*65536+(c.t:Int):=λc=>by
  unfold JN Mono.KO;rw[if_neg Ze,if_neg Ze];rfl
 obtain⟨h,i,j,k⟩:=f;obtain⟨l,m,n,o⟩:=g;rw[d,d];unfold Mo.lt;omega
structure K4 (w:World) (x0 x1 x2 x3:FV) (l:Nat->Rat):Prop where
 k0:KF w x0 (l 0)
 k1:KF w x1 (l 1)
 k2:KF w x2 (l 2)
 k3:KF w x3 (l 3)
theorem U4 (x:PV) (ai:List TO) (L:Nat) (w:World) (i:jcj w x ai) (C:x.n<=1000000000) (hk:L<=ai.length) (ao:∀ ar,ar<L->Ok1 ai ar) (ae:L<ai.length->¬Ok1 ai L) :
  Cl 91 #[x.v] w λe w'=>e=.returned (.bool (decide (L=ai.length)))/\Bl w w':=by
 obtain⟨xa,Q,xc⟩:=x;have E:=qh<|show ai.length=Q from i.2.1;have HN:=qh<|show Q<=1000000000 from C;have HR:=qh i;have au:=qh hk;have ad:=qh ao;have Y:=qh ae;have j:=qh<|Below.refl w.heap.size w;obtain⟨bv,af⟩:=gn (decide (L=ai.length));have S:=qh af;rw[<- af];clear i hk ao ae C af;change Cl 91 #[.slice xa Q xc] w _;go_enter func91,ntmps91;go_wp2;go_loopw [3] (λar wr=>∃ k:Nat,k<=L/\ar=.int .i64 k/\Bl w wr) (λar _=>Q-(intOf ar).toNat)
 case atStart=>exact⟨0,Nat.zero_le _,rfl,j.o⟩
 case round =>
  obtain⟨k,an,rfl,am⟩:=hrel;have j:=qh am;have R:=qh an;clear am an;by_cases V:k<Q
  ·have f:=qh V;have aB:(k:Int)<(Q:Int):=Zo;obtain⟨pb,po,rfl,ag⟩:=(HR.o.below j.o).1.one (λi=>by have G:=E.o;rw[List.map_eq_nil_iff] at i;rw[i] at G;simp at G;omega);obtain⟨e,W⟩:∃ e,ai[k]?=some e:=⟨_,List.getElem?_eq_getElem (by rw[E.o];exact V)⟩;obtain⟨c,o⟩:=e;have F:=qh<|ag k c (by rw[List.getElem?_map,W];rfl);have av:=qh ag;have Z:=qh W;have N:=qh<|(HR.o.below j.o).2.2.2.1 _ (List.mem_of_getElem? W);have D:=qh<|show LF c.c 900000 from HR.o.2.2.2.2.2 _ (List.mem_of_getElem? W);have T:=qh<|show c.m.Small from HR.o.2.2.2.2.1 _ (List.mem_of_getElem? W);clear ag W V
   cases o with
   | none =>
    have I:=qh<|show BF wr c.c from N.o
    have B:=qh (show false=bv by
     rw[S.o];refine(zo λH=>?_).symm;obtain⟨e',q',G,h2,-⟩:=ad.o k (by rw[H,E.o];exact f.o);rw[Z.o] at G
     cases G
     cases h2)
    clear N
    go_upto_region 4 with (fail)
    refine FS.Jd 34 [] (FS.JI [(5,FS.Sp.know (.bool false))])
     (λw'=>Bl wr w') Zk Zk Zk
     (FS.Jb (FS.Sp.Jk _ _) (FS.Jh)) (λ_ _ i d=>i.trans (d.mono i.size)) (zk.drew) ?_
    simp only[zu,zi,ze,zx,zy,zv,zw]
    iterate 5
     refine FS.rdw (λw' a=>by have C:=f.o;obtain⟨l,m,n,r,s,t,u,v⟩:=(F.o.below a).eight;go_simp;try rfl) ?_
    refine FS.Jc rfl rfl rfl (λw' g=>?_) ?_
    ·have a:=g.world;refine FS.Jm (FS.PK (.bool false)) ?_ (λ_ _ i=>i.post);go_simp;have h:=(show Cl 149 #[.agg #[.bool c.c.t.s,.slice c.c.t.a c.c.t.n c.c.t.c,.bool c.c.l.s,.slice c.c.l.a c.c.l.n c.c.l.c]] w' _ from rcheckVB (x:=c.c) (I.o.below a) D.o);refine h.mono ?_;rintro e A ⟨rfl,d⟩;exact⟨_,rfl,rfl,d⟩
    rintro _ rfl
    conv=>arg 10;simp only[Act.put,zq0,zq1,zq2]
    iterate 2
     refine FS.rd0 ?_
    iterate 7
     refine FS.QZ (by rfl) rfl ?_
     conv=>arg 10;simp only[Act.put,zq0,zq1,zq2]
    iterate 2
     refine FS.rd0 ?_
    iterate 17
     refine FS.QZ (by rfl) rfl ?_
     conv=>arg 10;simp only[Act.put,zq0,zq1,zq2]
    refine FS.Jn (λaC d hF=>?_);clear hF;have j:=qk j d;clear d;go_wp2;go_ret
    exact⟨by rw[B.o] <;> rfl,j.o⟩
   | some q =>
    have I:=qh<|show KF wr c.c q from N.o;by_cases X:q=0
    ·have M:=qh<|q_num.2 X
     have B:=qh (show false=bv by
      rw[S.o];refine(zo λH=>?_).symm;obtain⟨e',q',G,h2,h3,-⟩:=ad.o k (by rw[H,E.o];exact f.o);rw[Z.o] at G
      cases G
      cases h2
      exact h3 X)
     clear N X
     go_upto_region 4 with (fail)
     refine FS.Jd 34 [] (FS.JI [(5,FS.Sp.know (.bool true)),(13,FS.Sp.know (.int .i64 0))])
      (λw'=>Bl wr w') Zk Zk Zk
      (FS.Jb (FS.Sp.Jk _ _) (FS.Jb (FS.Sp.Jk _ _) (FS.Jh))) (λ_ _ i d=>i.trans (d.mono i.size)) (zk.drew) ?_
     simp only[zu,zi,ze,zx,zy,zv,zw]
     iterate 5
      refine FS.rdw (λw' a=>by have C:=f.o;obtain⟨l,m,n,r,s,t,u,v⟩:=(F.o.below a).eight;go_simp;try rfl) ?_
     refine FS.Jc rfl rfl rfl (λw' g=>?_) ?_
     ·have a:=g.world;refine FS.Jm (FS.PK (.bool true)) ?_ (λ_ _ i=>i.post);go_simp;have h:=(show Cl 149 #[.agg #[.bool c.c.t.s,.slice c.c.t.a c.c.t.n c.c.t.c,.bool c.c.l.s,.slice c.c.l.a c.c.l.n c.c.l.c]] w' _ from U2 (x:=c.c) (I.o.below a) D.o);refine h.mono ?_;rintro e A ⟨rfl,d⟩;exact⟨_,rfl,rfl,d⟩
     rintro _ rfl
     conv=>arg 10;simp only[Act.put,zq0,zq1,zq2]
     iterate 2
      refine FS.rd0 ?_
     iterate 5
      refine FS.rdg (λw' a=>by have C:=f.o;obtain⟨l,m,n,r,s,t,u,v⟩:=(F.o.below a).eight;go_simp;try rfl) ?_
     refine FS.JJ (by rfl) rfl rfl (λw' g=>?_) ?_
     ·have a:=g.world;refine FS.Jm (FS.PK (.int .i64 0)) ?_ (λ_ _ i=>i.post);go_simp;have h:=(show Cl 150 #[.agg #[.bool c.c.t.s,.slice c.c.t.a c.c.t.n c.c.t.c,.bool c.c.l.s,.slice c.c.l.a c.c.l.n c.c.l.c]] w' _ from V8 (x:=c.c) (I.o.below a).any D.o);rw[show Js q.num 0=0 from M.o] at h;refine h.mono ?_;rintro e A ⟨rfl,d⟩;exact⟨_,rfl,rfl,d⟩
     rintro _ rfl
     conv=>arg 10;simp only[Act.put,zq0,zq1,zq2]
     refine FS.rdz ?_
     iterate 2
      refine FS.rd0 ?_
     iterate 17
      refine FS.QZ (by rfl) rfl ?_
      conv=>arg 10;simp only[Act.put,zq0,zq1,zq2]
     refine FS.Jn (λaD d hF=>?_);clear hF;have j:=qk j d;clear d;go_wp2;go_ret;exact⟨by rw[B.o] <;> rfl,j.o⟩
    ·obtain⟨J,ah⟩:=gn (Js q.num 0);have M:=qh ah.symm
     have aH:(J==0)=false:=by
      rw[ah]
      simpa using λi=>X (q_num.1 i)
     have HQ:=qh X;clear ah X N
     rcases Nat.eq_zero_or_pos k with h0 | h0
     ·have ac:=qh (show k<L from Nat.lt_of_le_of_ne R.o λH=>Y.o (by rw[<- H,E.o];exact f.o) (by rw[<- H];exact⟨_,q,Z.o,rfl,HQ.o,λi=>Zo⟩));have ay:¬(0<(k:Int)):=Zo;have az:¬(0<k):=Zo;clear h0
      go_upto_region 4 with (fail)
      refine FS.Jd 34 [] (FS.JI [(5,FS.Sp.know (.bool true)),(13,FS.Sp.know (.int .i64 J))])
       (λw'=>Bl wr w') Zk Zk Zk
       (FS.Jb (FS.Sp.Jk _ _) (FS.Jb (FS.Sp.Jk _ _) (FS.Jh))) (λ_ _ i d=>i.trans (d.mono i.size)) (zk.drew) ?_
      simp only[zu,zi,ze,zx,zy,zv,zw]
      iterate 5
       refine FS.rdw (λw' a=>by have C:=f.o;obtain⟨l,m,n,r,s,t,u,v⟩:=(F.o.below a).eight;go_simp;try rfl) ?_
      refine FS.Jc rfl rfl rfl (λw' g=>?_) ?_
      ·have a:=g.world;refine FS.Jm (FS.PK (.bool true)) ?_ (λ_ _ i=>i.post);go_simp;have h:=(show Cl 149 #[.agg #[.bool c.c.t.s,.slice c.c.t.a c.c.t.n c.c.t.c,.bool c.c.l.s,.slice c.c.l.a c.c.l.n c.c.l.c]] w' _ from U2 (x:=c.c) (I.o.below a) D.o);refine h.mono ?_;rintro e A ⟨rfl,d⟩;exact⟨_,rfl,rfl,d⟩
      rintro _ rfl
      conv=>arg 10;simp only[Act.put,zq0,zq1,zq2]
      iterate 2
       refine FS.rd0 ?_
      iterate 5
       refine FS.rdg (λw' a=>by have C:=f.o;obtain⟨l,m,n,r,s,t,u,v⟩:=(F.o.below a).eight;go_simp;try rfl) ?_
      refine FS.JJ (by rfl) rfl rfl (λw' g=>?_) ?_
      ·have a:=g.world;refine FS.Jm (FS.PK (.int .i64 J)) ?_ (λ_ _ i=>i.post);go_simp;have h:=(show Cl 150 #[.agg #[.bool c.c.t.s,.slice c.c.t.a c.c.t.n c.c.t.c,.bool c.c.l.s,.slice c.c.l.a c.c.l.n c.c.l.c]] w' _ from V8 (x:=c.c) (I.o.below a).any D.o);rw[show Js q.num 0=J from M.o] at h;refine h.mono ?_;rintro e A ⟨rfl,d⟩;exact⟨_,rfl,rfl,d⟩
      rintro _ rfl
      conv=>arg 10;simp only[Act.put,zq0,zq1,zq2]
      refine FS.rdz ?_
      iterate 2
       refine FS.rd0 ?_
      iterate 3
       refine FS.rdz ?_
      iterate 13
       refine FS.QZ (by rfl) rfl ?_
       conv=>arg 10;simp only[Act.put,zq0,zq1,zq2]
      refine FS.rdz ?_;refine FS.Jn (λaE d hF=>?_);clear hF;have j:=qk j d;clear d;have aw:IntKind.i64.wrap ((k:Int)+1)=(k:Int)+1:=IntWalk.i64_in _ (Zi f HN);go_wp2;go_roundw
      case rel=>exact⟨k+1,Zh ac,rfl,j.o⟩
      case measure=>simp[intOf];have:=f.o;omega
     ·obtain⟨aq,hj⟩:∃ aq,k=aq+1:=⟨k-1,Zo⟩;have ay:0<(k:Int):=Zo;have az:0<k:=Zo;have aj:=qh (show IntKind.i64.wrap ((k:Int)-1)=(aq:Int) by have:=f.o;have:=HN.o;rw[IntWalk.i64_in _ Zo];omega);have ab:=qh (show aq<Q by have:=f.o;omega);have aa:=qh hj;obtain⟨aA,hd⟩:∃ aA,ai[aq]?=some aA:=⟨_,List.getElem?_eq_getElem (by rw[E.o];exact ab.o)⟩;obtain⟨z,oj⟩:=aA;have HD:=qh hd;have EJ:=qh<|av.o aq z (by rw[List.getElem?_map,hd];rfl);have U:=qh<|show z.m.Small from HR.o.2.2.2.2.1 _ (List.mem_of_getElem? hd);obtain⟨O,P⟩:=gn (Mono.Js (JN 0 z.m) (JN 0 c.m));have ak:=qh P.symm;clear hd h0 hj;by_cases K:c.m.lt z.m
      ·have ax:¬(O<=0):=by rw[P];exact Int.not_le.2 (ZX.2 ((U3 T.o U.o).1 K))
       have ac:=qh (show k<L from Nat.lt_of_le_of_ne R.o λH=>Y.o (by rw[<- H,E.o];exact f.o) (by rw[<- H];exact⟨_,q,Z.o,rfl,HQ.o,λ_=>⟨_,by rw[aa.o];exact HD.o,K⟩⟩));clear P K
       go_upto_region 4 with (fail)
       refine FS.Jd 34 [] (FS.JI [(5,FS.Sp.know (.bool true)),(13,FS.Sp.know (.int .i64 J)),(31,FS.Sp.know (.int .i64 O))])
        (λw'=>Bl wr w') Zk Zk Zk
        (FS.Jb (FS.Sp.Jk _ _) (FS.Jb (FS.Sp.Jk _ _) (FS.Jb (FS.Sp.Jk _ _) (FS.Jh)))) (λ_ _ i d=>i.trans (d.mono i.size)) (zk.drew) ?_
       simp only[zu,zi,ze,zx,zy,zv,zw]
       iterate 5
        refine FS.rdw (λw' a=>by have C:=f.o;obtain⟨l,m,n,r,s,t,u,v⟩:=(F.o.below a).eight;go_simp;try rfl) ?_
       refine FS.Jc rfl rfl rfl (λw' g=>?_) ?_
       ·have a:=g.world;refine FS.Jm (FS.PK (.bool true)) ?_ (λ_ _ i=>i.post);go_simp;have h:=(show Cl 149 #[.agg #[.bool c.c.t.s,.slice c.c.t.a c.c.t.n c.c.t.c,.bool c.c.l.s,.slice c.c.l.a c.c.l.n c.c.l.c]] w' _ from U2 (x:=c.c) (I.o.below a) D.o);refine h.mono ?_;rintro e A ⟨rfl,d⟩;exact⟨_,rfl,rfl,d⟩
       rintro _ rfl
       conv=>arg 10;simp only[Act.put,zq0,zq1,zq2]
       iterate 2
        refine FS.rd0 ?_
       iterate 5
        refine FS.rdg (λw' a=>by have C:=f.o;obtain⟨l,m,n,r,s,t,u,v⟩:=(F.o.below a).eight;go_simp;try rfl) ?_
       refine FS.JJ (by rfl) rfl rfl (λw' g=>?_) ?_
       ·have a:=g.world;refine FS.Jm (FS.PK (.int .i64 J)) ?_ (λ_ _ i=>i.post);go_simp;have h:=(show Cl 150 #[.agg #[.bool c.c.t.s,.slice c.c.t.a c.c.t.n c.c.t.c,.bool c.c.l.s,.slice c.c.l.a c.c.l.n c.c.l.c]] w' _ from V8 (x:=c.c) (I.o.below a).any D.o);rw[show Js q.num 0=J from M.o] at h;refine h.mono ?_;rintro e A ⟨rfl,d⟩;exact⟨_,rfl,rfl,d⟩
       rintro _ rfl
       conv=>arg 10;simp only[Act.put,zq0,zq1,zq2]
       refine FS.rdz ?_
       iterate 2
        refine FS.rd0 ?_
       iterate 14
        refine FS.rdg (λw' a=>by have hj:=aj.o;have C:=ab.o;obtain⟨l,m,n,r,s,t,u,v⟩:=(EJ.o.below a).eight;have C:=f.o;obtain⟨l,m,n,r,s,t,u,v⟩:=(F.o.below a).eight;go_simp;try rfl) ?_
       refine FS.JJ (by rfl) rfl rfl (λw' g=>?_) ?_
       ·have a:=g.world;refine FS.Jm (FS.PK (.int .i64 O)) ?_ (λ_ _ i=>i.post);go_simp;have h:=(show Cl 37 #[.int .u8 0,.agg #[.int .u16 z.m.x,.int .u16 z.m.y,.int .u16 z.m.z,.int .u16 z.m.t],.agg #[.int .u16 c.m.x,.int .u16 c.m.y,.int .u16 c.m.z,.int .u16 c.m.t]] w' _ from jed 0 z.m c.m w' U.o T.o);rw[show Mono.Js (JN 0 z.m) (JN 0 c.m)=O from ak.o] at h;refine h.mono ?_;rintro e A ⟨rfl,d⟩;exact⟨_,rfl,rfl,d⟩
       rintro _ rfl
       conv=>arg 10;simp only[Act.put,zq0,zq1,zq2]
       iterate 2
        refine FS.rdz ?_
       refine FS.Jn (λaF d hF=>?_);clear hF;have j:=qk j d;clear d;have aw:IntKind.i64.wrap ((k:Int)+1)=(k:Int)+1:=IntWalk.i64_in _ (Zi f HN);go_wp2;go_roundw
       case rel=>exact⟨k+1,Zh ac,rfl,j.o⟩
       case measure=>simp[intOf];have:=f.o;omega
      ·have ax:O<=0:=by rw[P];exact Int.not_lt.1 λi=>K ((U3 T.o U.o).2 (ZX.1 i))
       have B:=qh (show false=bv by
        rw[S.o];refine(zo λH=>?_).symm;obtain⟨e',q',G,h2,h3,h4⟩:=ad.o k (by rw[H,E.o];exact f.o);obtain⟨d',h5,h6⟩:=h4 (Zh aa);rw[Z.o] at G
        cases G
        rw[show k-1=aq by have:=aa.o;omega,HD.o] at h5
        cases h5
        exact K h6)
       clear P K
       go_upto_region 4 with (fail)
       refine FS.Jd 34 [] (FS.JI [(5,FS.Sp.know (.bool true)),(13,FS.Sp.know (.int .i64 J)),(31,FS.Sp.know (.int .i64 O))])
        (λw'=>Bl wr w') Zk Zk Zk
        (FS.Jb (FS.Sp.Jk _ _) (FS.Jb (FS.Sp.Jk _ _) (FS.Jb (FS.Sp.Jk _ _) (FS.Jh)))) (λ_ _ i d=>i.trans (d.mono i.size)) (zk.drew) ?_
       simp only[zu,zi,ze,zx,zy,zv,zw]
       iterate 5
        refine FS.rdw (λw' a=>by have C:=f.o;obtain⟨l,m,n,r,s,t,u,v⟩:=(F.o.below a).eight;go_simp;try rfl) ?_
       refine FS.Jc rfl rfl rfl (λw' g=>?_) ?_
       ·have a:=g.world;refine FS.Jm (FS.PK (.bool true)) ?_ (λ_ _ i=>i.post);go_simp;have h:=(show Cl 149 #[.agg #[.bool c.c.t.s,.slice c.c.t.a c.c.t.n c.c.t.c,.bool c.c.l.s,.slice c.c.l.a c.c.l.n c.c.l.c]] w' _ from U2 (x:=c.c) (I.o.below a) D.o);refine h.mono ?_;rintro e A ⟨rfl,d⟩;exact⟨_,rfl,rfl,d⟩
       rintro _ rfl
       conv=>arg 10;simp only[Act.put,zq0,zq1,zq2]
       iterate 2
        refine FS.rd0 ?_
       iterate 5
        refine FS.rdg (λw' a=>by have C:=f.o;obtain⟨l,m,n,r,s,t,u,v⟩:=(F.o.below a).eight;go_simp;try rfl) ?_
       refine FS.JJ (by rfl) rfl rfl (λw' g=>?_) ?_
       ·have a:=g.world;refine FS.Jm (FS.PK (.int .i64 J)) ?_ (λ_ _ i=>i.post);go_simp;have h:=(show Cl 150 #[.agg #[.bool c.c.t.s,.slice c.c.t.a c.c.t.n c.c.t.c,.bool c.c.l.s,.slice c.c.l.a c.c.l.n c.c.l.c]] w' _ from V8 (x:=c.c) (I.o.below a).any D.o);rw[show Js q.num 0=J from M.o] at h;refine h.mono ?_;rintro e A ⟨rfl,d⟩;exact⟨_,rfl,rfl,d⟩
       rintro _ rfl
       conv=>arg 10;simp only[Act.put,zq0,zq1,zq2]
       refine FS.rdz ?_
       iterate 2
        refine FS.rd0 ?_
       iterate 14
        refine FS.rdg (λw' a=>by have hj:=aj.o;have C:=ab.o;obtain⟨l,m,n,r,s,t,u,v⟩:=(EJ.o.below a).eight;have C:=f.o;obtain⟨l,m,n,r,s,t,u,v⟩:=(F.o.below a).eight;go_simp;try rfl) ?_
       refine FS.JJ (by rfl) rfl rfl (λw' g=>?_) ?_
       ·have a:=g.world;refine FS.Jm (FS.PK (.int .i64 O)) ?_ (λ_ _ i=>i.post);go_simp;have h:=(show Cl 37 #[.int .u8 0,.agg #[.int .u16 z.m.x,.int .u16 z.m.y,.int .u16 z.m.z,.int .u16 z.m.t],.agg #[.int .u16 c.m.x,.int .u16 c.m.y,.int .u16 c.m.z,.int .u16 c.m.t]] w' _ from jed 0 z.m c.m w' U.o T.o);rw[show Mono.Js (JN 0 z.m) (JN 0 c.m)=O from ak.o] at h;refine h.mono ?_;rintro e A ⟨rfl,d⟩;exact⟨_,rfl,rfl,d⟩
       rintro _ rfl
       conv=>arg 10;simp only[Act.put,zq0,zq1,zq2]
       iterate 2
        refine FS.rdz ?_
       refine FS.Jn (λaG d hF=>?_);clear hF;have j:=qk j d;clear d;go_wp2;go_ret;exact⟨by rw[B.o] <;> rfl,j.o⟩
  ·have B:=qh (show true=bv by
    rw[S.o]
    exact(decide_eq_true (by have:=R.o;have:=au.o;have:=E.o;omega)).symm)
   have aI:¬((k:Int)<(Q:Int)):=Zo;clear V;go_wp2;go_ret;exact⟨by rw[B.o] <;> rfl,j.o⟩
theorem Y4 {x:PV} {k:List Tm} (g:KP w x k) (r:∀ u∈k,LQ u.2 900000) (o:x.n<=1000000000):Cl 91 #[x.v] w λe w'=>e=.returned (.bool true)/\Bl w w':=by
 obtain⟨j,l,m,h,d⟩:=g.ex
 have n:jcj w x (j.map λe=>(e.1,some e.2)):=by
  refine⟨by rw[List.map_map];exact l,by rw[List.length_map];exact m,g.le,λe a=>?_,λe a=>?_,λe a=>?_⟩
  ·obtain⟨f,c,rfl⟩:=List.mem_map.1 a;exact h f c
  ·obtain⟨f,c,rfl⟩:=List.mem_map.1 a;exact g.small (tm f) (by rw[<- d];exact List.mem_map_of_mem c)
  ·obtain⟨f,c,rfl⟩:=List.mem_map.1 a;exact(h f c).len (r (tm f) (by rw[<- d];exact List.mem_map_of_mem c)) zj
 have i:okP (j.map λe=>(e.1,some e.2)):=by
  refine⟨k,?_,g.canon⟩;rw[ZW];refine⟨by rw[<- d,List.length_map,List.length_map],λt e a=>?_⟩;rw[List.getElem?_map] at a
  cases hk:j[t]? with
  | none=>rw[hk] at a;cases a
  | some f =>
   rw[hk] at a
   obtain rfl:(f.1,some f.2)=e:=by simpa using a
   exact⟨f.2,rfl,by rw[<- d,List.getElem?_map,hk];rfl⟩
 have s:=U4 x _ (j.map λe=>(e.1,some e.2)).length w n o zj ((UW _).1 i) (λg=>absurd g Zo);rwa [decide_eq_true rfl] at s
theorem jgb {k:PV} (r:BP w k) (j:k.n<=1000000000):Cl 91 #[k.v] w λe w'=>e=.returned (.bool false)/\Bl w w':=by
 obtain⟨g,m,i⟩:=r;rw[UW] at i
 have first:∀ n,n<=g.length->(∀ f,f<n->Ok1 g f)\/∃ c,c<n/\(∀ f,f<c->Ok1 g f)/\¬Ok1 g c:=by
  intro n
  induction n with
  | zero=>exact λ_=>Or.inl λf h=>Zo
  | succ n ih =>
   intro j
   rcases ih Zo with a | ⟨c,a,d⟩
   ·by_cases d:Ok1 g n
    ·exact Or.inl λf h=>(Nat.lt_or_eq_of_le (Nat.le_of_lt_succ h)).elim (a f) (λe=>e▸d)
    ·exact Or.inr ⟨n,Zo,a,d⟩
   ·exact Or.inr ⟨c,Zo,d⟩
 rcases first g.length zj with a | ⟨c,a,d,l⟩
 ·exact absurd a i
 ·have o:=U4 k g c w m j (Nat.le_of_lt a) d (λ_=>l);rwa [zo Zo] at o
theorem rfit_k {c:PV} {i:List Tm} (j:KP w c i) (g:∀ k∈i,LQ k.2 900000) (f:c.n<=1000000000):Cl 36 #[c.v] w λe w'=>e=.returned c.v/\Bl w w':=by
 have h:=qh<|Y4 j g f;go_enter func36,ntmps36;go_wp2_with fail
 refine h.o.mono ?_;rintro e l ⟨rfl,a⟩;have d:=qh a;clear a h;go_wp2;go_ret;exact⟨rfl,d.o⟩
theorem rfit_b {f:PV} (h:BP w f) (d:f.n<=1000000000):Cl 36 #[f.v] w λe w'=>e=.returned (.slice none 0 0)/\Bl w w':=by
 have g:=qh<|jgb h d;go_enter func36,ntmps36;go_wp2_with fail
 refine g.o.mono ?_;rintro e i ⟨rfl,a⟩;have c:=qh a;clear a g;go_wp2;go_ret;exact⟨rfl,c.o⟩
end Pol
end Go.Proofs.YthacfgmdihcffaaGreatDoor
