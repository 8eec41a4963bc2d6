/-
  What a tied law keeps for its Book: groups, each with the blocks between two worlds.
-/
import Derived.Test.YthacfgmdihcffaaGreatDoorPzTT
set_option linter.unusedSimpArgs false
set_option linter.unusedVariables false
set_option maxHeartbeats 16000000
set_option maxRecDepth 100000
open Go.Proofs.Tryz
namespace Go.Proofs.YthacfgmdihcffaaGreatDoor
namespace Pol
open Go.RowKit Go.Sort Limb
theorem scale_lq {d:List Tm} {k:Nat} (f:Canon d) (h:∀ b∈d,LQ b.2 k):∀ b∈Qt (-1) d,LQ b.2 k:=λb a=>by
 rw[Ka f (by decide +kernel)] at a;obtain⟨c,g,rfl⟩:=List.mem_map.1 a;show LQ (c.2*(-1)) k;rw[show c.2*(-1) = -c.2 by grind];exact(h c g).neg
theorem Kt (T U:PV) (S g:List Tm) (k:World) (J:AP k T S) (K:AP k U g) (l:Canon g) (H:∀ O∈S,LQ O.2 400000) (I:∀ O∈g,LQ O.2 400000) (i:T.n<=400000000) (j:U.n<=1000000) (h:g.length<=1000000) :
  Cl 96 #[T.v,U.v] k λe P=>∃ z:PV,e=.returned z.v/\EP P k.heap.size z (VI S g)/\Bl k P:=by
 obtain⟨q,s,r⟩:=T;obtain⟨t,v,u⟩:=U;have x:=qh<|show Cl 93 #[.int .i64 (-1)] k _ from rofV (-1) k Zo Zo;have W:=qh J;have X:=qh K;have A:=qh l;have B:=qh H;have f:=qh I;have E:=qh i;have F:=qh j;have C:=qh (show(Qt (-1) g).length<=1000000 by rw[Ka l (by decide +kernel)];unfold JZ;rw[List.length_map];exact h);clear J K l H I i j h;change Cl 96 #[.slice q s r,.slice t v u] k _;go_enter func96,ntmps96;go_wp2_with fail
 with_reducible refine x.o.mono ?_
 rintro e Q ⟨d,rfl,m,a⟩;have b:=qh a;have y:=qh<|show Cl 92 #[.slice t v u,.agg #[.bool d.t.s,.slice d.t.a d.t.n d.t.c,.bool d.l.s,.slice d.l.a d.l.n d.l.c]] Q _ from U8 ⟨t,v,u⟩ g d (-1:Rat) Q (X.o.below a) (λO Y=>(f.o O Y).up Zo) F.o m.k.any (m.k.len (LQ.int (n:=-1) Zo Zo) Zo) ((LQ.int (n:=-1) Zo Zo).up Zo);clear m a x;go_wp2_with fail
 with_reducible refine y.o.mono ?_
 rintro e R ⟨⟨sa,p,sc⟩,o,c,a⟩;obtain rfl:e=.returned (.slice sa p sc):=o;have b:=qk b a;have D:=qh b.o.size;have w:=qh<|show Cl 95 #[.slice q s r,.slice sa p sc] R _ from XL ⟨q,s,r⟩ ⟨sa,p,sc⟩ S (Qt (-1) g) R (W.o.below b.o) c.k.any B.o (scale_lq A.o f.o) E.o (by rw[c.k.len];have:=C.o;omega);clear c a y;go_wp2_with fail
 with_reducible refine w.o.mono ?_
 rintro e Z ⟨⟨L,N,M⟩,o,c,a⟩;obtain rfl:e=.returned (.slice L N M):=o;have G:=qh<|b.o.trans (a.mono b.o.size);have V:=qh<|c.mono D.o;clear c a w;go_wp2;go_ret;exact⟨⟨L,N,M⟩,rfl,V.o,G.o⟩
theorem rby_n (a b:TV) (h:World) (k:a.m.Small) (l:b.m.Small) (H:¬b.m.stands a.m) :
  Cl 94 #[TV.v a,TV.v b] h λe O=>e=.returned (.tuple #[.agg #[.bool false,.slice none 0 0,.bool false,.slice none 0 0,.int .u16 0,.int .u16 0,.int .u16 0,.int .u16 0],.bool false])/\Bl h O:=by
 obtain⟨J,c⟩:=gn (((h.alloc (.cells (cTv a.c a.m).toArray 37)).alloc (.cells (cTv b.c b.m).toArray 37)).alloc (.cells zTv.toArray 37));have j:=bq c (((zk.alloc zj _).alloc (by go_size) _).alloc (by go_size) _);have L:=qh<|bz c (((Bxs.new h 37 (cTv a.c a.m)).alloc _).alloc _)
 have M:=qh (show Bxs J (h.heap.size+1) 37 (cTv b.c b.m) by
  have G:=Bxs.new (h.alloc (.cells (cTv a.c a.m).toArray 37)) 37 (cTv b.c b.m);rw[World.size_alloc] at G;rw[c]
  exact G.alloc _)
 have B4:=qh (show Bxs J (h.heap.size+1+1) 37 zTv by
  have G:=Bxs.new ((h.alloc (.cells (cTv a.c a.m).toArray 37)).alloc (.cells (cTv b.c b.m).toArray 37)) 37 zTv;rw[World.size_alloc,World.size_alloc] at G;rw[c]
  exact G)
 obtain⟨K,f⟩:=gn (h.heap.size+1+1);have o:=qh (show h.heap.size<=K by omega);rw[<- f] at B4;have p:=qh f;have d:=qh j;have N:=qh c;have CD:=qh<|show Cl 154 #[.agg #[.int .u16 a.m.x,.int .u16 a.m.y,.int .u16 a.m.z,.int .u16 a.m.t],.agg #[.int .u16 b.m.x,.int .u16 b.m.y,.int .u16 b.m.z,.int .u16 b.m.t]] J _ from jh0 a.m b.m J k l H;clear c j k l H f;change Cl 94 #[.agg #[.bool a.c.t.s,.slice a.c.t.a a.c.t.n a.c.t.c,.bool a.c.l.s,.slice a.c.l.a a.c.l.n a.c.l.c,.int .u16 a.m.x,.int .u16 a.m.y,.int .u16 a.m.z,.int .u16 a.m.t],.agg #[.bool b.c.t.s,.slice b.c.t.a b.c.t.n b.c.t.c,.bool b.c.l.s,.slice b.c.l.a b.c.l.n b.c.l.c,.int .u16 b.m.x,.int .u16 b.m.y,.int .u16 b.m.z,.int .u16 b.m.t]] h _;go_enter func94,ntmps94
 go_upto_region 1 with (fail)
 rw[<- N.o,<- p.o];obtain⟨q,r,s,t,u,v,w,x⟩:=L.o.c8;obtain⟨y,z,A,B,C,D,E,F⟩:=M.o.c8;go_wp2_with fail
 with_reducible refine CD.o.mono ?_
 rintro e I ⟨rfl,n⟩;have B4:=qh<|B4.o.bl n;have d:=qk d n;clear CD q r s t u v w x y z A B C D E F n
 go_upto_region 2 with (fail)
 obtain⟨aa,m⟩:=gn (I.alloc (.cells #[.int .u16 0,.int .u16 0,.int .u16 0,.int .u16 0] 35));have g:=bq m (zk.alloc zj _);obtain⟨Z,i⟩:=gn I.heap.size;rw[<- m,<- i];have B4:=qh<|B4.o.bl g;have d:=qk d g;clear m g i;obtain⟨P,Q,R,S,T,U,V,W,X,Y⟩:=B4.o.d8;go_wp2_with fail
 exact bodyPost_ret (Qo rfl _ _ _ _ _ _ _ rfl (J9 B4.o ..) underlying37 rfl Zk) rfl ⟨rfl,J5 d.o o.o ..⟩
theorem rby_y (a b:TV) (ac ab:Rat) (h:World) (W:KF h a.c ac) (la:LF a.c 900000) (L:KF h b.c ab) (lb:LF b.c 900000) (M:a.m.Small) (N:b.m.Small) (X:b.m.stands a.m) (Z:ab≠0) :
  Cl 94 #[TV.v a,TV.v b] h λe w'=>∃ y:FV,e=.returned (.tuple #[TV.v ⟨y,a.m.quo b.m⟩,.bool true])/\EF w' h.heap.size y (ac/ab)/\Bl h w':=by
 obtain⟨aa,m⟩:=gn (((h.alloc (.cells (cTv a.c a.m).toArray 37)).alloc (.cells (cTv b.c b.m).toArray 37)).alloc (.cells zTv.toArray 37));have k:=bq m (((zk.alloc zj _).alloc (by go_size) _).alloc (by go_size) _);have i:=qh<|bz m (((Bxs.new h 37 (cTv a.c a.m)).alloc _).alloc _)
 have j:=qh (show Bxs aa (h.heap.size+1) 37 (cTv b.c b.m) by
  have V:=Bxs.new (h.alloc (.cells (cTv a.c a.m).toArray 37)) 37 (cTv b.c b.m);rw[World.size_alloc] at V;rw[m]
  exact V.alloc _)
 have B4:=qh (show Bxs aa (h.heap.size+1+1) 37 zTv by
  have V:=Bxs.new ((h.alloc (.cells (cTv a.c a.m).toArray 37)).alloc (.cells (cTv b.c b.m).toArray 37)) 37 zTv;rw[World.size_alloc,World.size_alloc] at V;rw[m]
  exact V)
 obtain⟨O,F⟩:=gn (h.heap.size+1+1);have S:=qh (show h.heap.size<=O by omega);rw[<- F] at B4;have T:=qh F;have f:=qh k;have HV:=qh m;have CD:=qh<|show Cl 154 #[.agg #[.int .u16 a.m.x,.int .u16 a.m.y,.int .u16 a.m.z,.int .u16 a.m.t],.agg #[.int .u16 b.m.x,.int .u16 b.m.y,.int .u16 b.m.z,.int .u16 b.m.t]] aa _ from jlb a.m b.m aa M N X;have I:=qh<|W.below k;have FB:=qh<|L.below k;have LA:=qh la;have LB:=qh lb;have HZ:=qh Z;clear m k M N X F W la L lb Z;change Cl 94 #[.agg #[.bool a.c.t.s,.slice a.c.t.a a.c.t.n a.c.t.c,.bool a.c.l.s,.slice a.c.l.a a.c.l.n a.c.l.c,.int .u16 a.m.x,.int .u16 a.m.y,.int .u16 a.m.z,.int .u16 a.m.t],.agg #[.bool b.c.t.s,.slice b.c.t.a b.c.t.n b.c.t.c,.bool b.c.l.s,.slice b.c.l.a b.c.l.n b.c.l.c,.int .u16 b.m.x,.int .u16 b.m.y,.int .u16 b.m.z,.int .u16 b.m.t]] h _;go_enter func94,ntmps94
 go_upto_region 1 with (fail)
 rw[<- HV.o,<- T.o];obtain⟨n,o,p,q,r,s,t,u⟩:=i.o.c8;obtain⟨v,w,z,A,B,C,D,E⟩:=j.o.c8;go_wp2_with fail
 with_reducible refine CD.o.mono ?_
 rintro e w1 ⟨rfl,c⟩;have i:=qh<|i.o.bl c;have j:=qh<|j.o.bl c;have B4:=qh<|B4.o.bl c;have f:=qk f c;clear CD n o p q r s t u v w z A B C D E;have I:=qh<|I.o.below c;have FB:=qh<|FB.o.below c;clear c
 go_upto_region 4 with (fail)
 obtain⟨aA,K⟩:=gn (w1.alloc (.cells #[.int .u16 (a.m.quo b.m).x,.int .u16 (a.m.quo b.m).y,.int .u16 (a.m.quo b.m).z,.int .u16 (a.m.quo b.m).t] 35));have d:=bq K (zk.alloc zj _);have l:=qh<|al K;obtain⟨A6,G⟩:=gn w1.heap.size;rw[<- K,<- G];rw[<- G] at l;have i:=qh<|i.o.bl d;have j:=qh<|j.o.bl d;have B4:=qh<|B4.o.bl d;have f:=qk f d;have U:=qh f.o.size;have R:=qh<|show Cl 155 #[.agg #[.bool a.c.t.s,.slice a.c.t.a a.c.t.n a.c.t.c,.bool a.c.l.s,.slice a.c.l.a a.c.l.n a.c.l.c],.agg #[.bool b.c.t.s,.slice b.c.t.a b.c.t.n b.c.t.c,.bool b.c.l.s,.slice b.c.l.a b.c.l.n b.c.l.c]] aA _ from rdivV (x:=a.c) (y:=b.c) (I.o.below d) LA.o (FB.o.below d) LB.o HZ.o;clear K d G I FB;obtain⟨n,o,p,q,r,s,t,u⟩:=i.o.c8;obtain⟨v,w,z,A,B,C,D,E⟩:=j.o.c8;go_wp2_with fail
 with_reducible refine R.o.mono ?_
 rintro e w2 ⟨y,rfl,Y,c⟩;have l:=qh<|l.o.bl c;have B4:=qh<|B4.o.bl c;have f:=qk f c;have P:=qh<|Y.mono U.o;clear Y c R i j n o p q r s t u v w z A B C D E
 go_upto_region 5 with (fail)
 obtain⟨ad,J⟩:=gn (w2.alloc (.cells (cFv y).toArray 32));have g:=bq J (zk.alloc zj _);have Q:=qh<|al J;obtain⟨A8,H⟩:=gn w2.heap.size;rw[<- J,<- H];rw[<- H] at Q;have l:=qh<|l.o.bl g;have B4:=qh<|B4.o.bl g;have f:=qk f g;have P:=qh<|P.o.below g;clear J g H;obtain⟨aw,ax,ay,az⟩:=Q.o.c4;obtain⟨aq,ar,au,av⟩:=l.o.c4;obtain⟨ae,af,ag,ah,ai,aj,ak,am,an,ao⟩:=B4.o.d8;have HD:=qh<|show EF (Xr ad O (.bool y.t.s) (.slice y.t.a y.t.n y.t.c) (.bool y.l.s) (.slice y.l.a y.l.n y.l.c) (.int .u16 (a.m.quo b.m).x) (.int .u16 (a.m.quo b.m).y) (.int .u16 (a.m.quo b.m).z) (.int .u16 (a.m.quo b.m).t)) h.heap.size y (ac/ab) from jdx P.o B4.o Ze ..;have HB:=qh<|show Bl h (Xr ad O (.bool y.t.s) (.slice y.t.a y.t.n y.t.c) (.bool y.l.s) (.slice y.l.a y.l.n y.l.c) (.int .u16 (a.m.quo b.m).x) (.int .u16 (a.m.quo b.m).y) (.int .u16 (a.m.quo b.m).z) (.int .u16 (a.m.quo b.m).t)) from J5 f.o S.o ..;go_wp2_with fail
 exact bodyPost_ret (Qo rfl _ _ _ _ _ _ _ rfl (J9 B4.o ..) underlying37 rfl Zk) rfl ⟨y,rfl,HD.o,HB.o⟩
theorem jlh (o:Int) (l:PV) (g:World) (i:AP g l []) (q:l.n<=1000000):Cl 9 #[.int .u8 o,l.v] g λe s=>e=.returned (.tuple #[.agg #[.bool false,.slice none 0 0,.bool false,.slice none 0 0,.int .u16 0,.int .u16 0,.int .u16 0,.int .u16 0],.bool false])/\Bl g s:=by
 obtain⟨⟨x,z,y⟩,j,k,c⟩:=ja8 i (λL r=>(by cases r)) Zo;obtain⟨K,b⟩:=gn (g.alloc (.cells zTv.toArray 37));have a:=bq b (zk.alloc zj _);have B4:=qh<|al b;have h:=qh<|c K a;obtain rfl:z=0:=j.len;have d:=qh a;have n:=qh b;obtain⟨u,w,v⟩:=l;clear i q j k c a b;change Cl 9 #[.int .u8 o,.slice u w v] g _;go_enter func9,ntmps9
 go_upto_region 1 with (fail)
 rw[<- n.o];go_wp2_with fail
 with_reducible refine h.o.mono ?_
 rintro e t ⟨p,f⟩;obtain rfl:e=.returned (.slice x 0 y):=p;have B4:=qh<|B4.o.bl f;have d:=qk d f;clear f h;obtain⟨A,B,C,D,E,F,G,H,I,J⟩:=B4.o.d8;have m:=qh<|show Bl g (Xr t g.heap.size (.bool false) (.slice none 0 0) (.bool false) (.slice none 0 0) (.int .u16 0) (.int .u16 0) (.int .u16 0) (.int .u16 0)) from J5 d.o zj ..;go_wp2_with fail
 exact bodyPost_ret (Qo rfl _ _ _ _ _ _ _ rfl (J9 B4.o ..) underlying37 rfl Zk) rfl ⟨rfl,m.o⟩
end Pol
namespace Book
open Go.RowKit Go.Sort Go.FreshH Limb Pol
variable {w:World} {c lo n q:Nat} {a:Option Addr}
structure HG (w:World) (lo:Nat) (S:Nat->Prop) (L M:List HL):Prop where
 num:∀ x∈L,(∃ o,Limb.Own 128 w lo x.a x.n x.c o)/\x.n<=900000000
 row:∀ x∈M,(∃ o,Qe w lo x.a x.n x.c o)/\x.n<=100000000
 at_:∀ x:HL,x∈L++M->∀ p:Addr,x.a=some p->S p.block
 nq:∀ x:HL,x∈L++M->x.q<=30000
 al:Yt L
 am:Yt M
theorem HG.nil (h:World) (d:Nat) (g:Nat->Prop):HG h d g [] []:=⟨λf b=>(by cases b),λf b=>(by cases b),λf b=>(by cases b),λf b=>(by cases b),List.Pairwise.nil,List.Pairwise.nil⟩
theorem HG.app {t u v:Nat->Prop} {y z m o:List HL} (i:HG w lo t y z) (h:HG w lo u m o) (p:∀ b,t b->v b) (r:∀ b,u b->v b) (s:∀ b,t b->¬u b):HG w lo v (y++m) (z++o) where
 num f d:=(List.mem_append.1 d).elim (i.num f) (h.num f)
 row f d:=(List.mem_append.1 d).elim (i.row f) (h.row f)
 at_ f d j g:=by
  rcases List.mem_append.1 d with d | d <;> rcases List.mem_append.1 d with d | d
  ·exact p _ (i.at_ f (List.mem_append_left _ d) j g)
  ·exact r _ (h.at_ f (List.mem_append_left _ d) j g)
  ·exact p _ (i.at_ f (List.mem_append_right _ d) j g)
  ·exact r _ (h.at_ f (List.mem_append_right _ d) j g)
 nq f d:=by
  rcases List.mem_append.1 d with d | d <;> rcases List.mem_append.1 d with d | d
  ·exact i.nq f (List.mem_append_left _ d)
  ·exact h.nq f (List.mem_append_left _ d)
  ·exact i.nq f (List.mem_append_right _ d)
  ·exact h.nq f (List.mem_append_right _ d)
 al:=List.pairwise_append.2 ⟨i.al,h.al,λf d x l j q g k e=>s j.block (i.at_ f (List.mem_append_left _ d) j g) (by rw[e];exact h.at_ x (List.mem_append_left _ l) q k)⟩
 am:=List.pairwise_append.2 ⟨i.am,h.am,λf d x l j q g k e=>s j.block (i.at_ f (List.mem_append_right _ d) j g) (by rw[e];exact h.at_ x (List.mem_append_right _ l) q k)⟩
theorem HG.keep {w':World} {j:Nat->Prop} {l m:List HL} (d:HG w lo j l m) (i:∀ b,j b->w'.heap[b]?=w.heap[b]?):HG w' lo j l m where
 num x hx:=by
  obtain⟨⟨o,g⟩,f⟩:=d.num x hx;exact⟨⟨o,g.keep λk h=>i _ (d.at_ x (List.mem_append_left _ hx) k h)⟩,f⟩
 row x hx:=by
  obtain⟨⟨o,g⟩,f⟩:=d.row x hx;exact⟨⟨o,g.keep λk h=>i _ (d.at_ x (List.mem_append_right _ hx) k h)⟩,f⟩
 at_:=d.at_
 nq:=d.nq
 al:=d.al
 am:=d.am
theorem HG.mono {b:Nat} {k:Nat->Prop} {i j:List HL} (g:HG w lo k i j) (h:b<=lo):HG w b k i j where
 num x hx:=by
  obtain⟨⟨o,f⟩,d⟩:=g.num x hx;exact⟨⟨o,f.mono h⟩,d⟩
 row x hx:=by
  obtain⟨⟨o,f⟩,d⟩:=g.row x hx;exact⟨⟨o,f.mono h⟩,d⟩
 at_:=g.at_
 nq:=g.nq
 al:=g.al
 am:=g.am
theorem BkS.apartG {b base:Nat} {H:Nat->Prop} {r s:List HL} (j:BkS w b base q r s) (h:HG w lo H r s) (A:0<r.length) (B:0<s.length) (E:r.length<=30000) (u:s.length<=30000) (C:∀ b,H b->lo<=b/\b<base) (v:lo<=base) :
  Cl 20 #[.pointer (some ⟨b,0,none⟩)] w λe G=>e=.returned (.bool true)/\Below lo w G:=by
 classical
 have k:∀ f:HL,∃ o,f∈r->Limb.Own 128 w lo f.a f.n f.c o:=λf=>by
  by_cases d:f∈r
  ·obtain⟨o,p⟩:=(h.num f d).1;exact⟨o,λ_=>p⟩
  ·exact⟨λ_=>0,λj=>absurd j d⟩
 have l:∀ f:HL,∃ o,f∈s->Qe w lo f.a f.n f.c o:=λf=>by
  by_cases d:f∈s
  ·obtain⟨o,p⟩:=(h.row f d).1;exact⟨o,λ_=>p⟩
  ·exact⟨λ_=>.bool true,λj=>absurd j d⟩
 obtain⟨K,k⟩:=Classical.axiomOfChoice k;obtain⟨x,l⟩:=Classical.axiomOfChoice l
 refine j.apart A B E u (λf d=>h.nq f (List.mem_append_left _ d)) (λf d=>h.nq f (List.mem_append_right _ d)) K x k l (λf d=>(h.num f d).2) (λf d=>(h.row f d).2)
  (λf d J i=>C _ (h.at_ f d J i)) v h.al h.am λf d M F J q i m e=>?_
 rcases(k f d).place with ⟨j,-⟩ | ⟨L,I,D,-,hg,-⟩
 ·rw[j] at i;cases i
 ·rcases(l M F).place with ⟨j,-⟩ | ⟨z,y,t,-,g,-⟩
  ·rw[j] at m;cases m
  ·rw[D] at i;rw[t] at m
   cases i;cases m
   change L=z at e;subst e;rw[hg] at g
   injection g with g
   injection g with _ g
   exact absurd g Ze
theorem own_lt {o:Nat->Int} (f:Limb.Own 128 w lo a n c o) {d:Addr} (b:a=some d):lo<=d.block/\d.block<w.heap.size:=(f.blk b).2
theorem ownT_lt {o:Nat->Value} (k:Qe w lo a n c o) {i:Addr} (b:a=some i):lo<=i.block/\i.block<w.heap.size:=by
 rcases k.place with f | ⟨m,j,g,d,hg,h,l⟩
 ·rw[f.1] at b;cases b
 ·rw[g] at b
  cases b
  exact⟨d,lt_of_block hg⟩
def Bw (lo hi b:Nat):Prop:=lo<=b/\b<hi
structure TOwn (w:World) (lo:Nat) (t:FV):Prop where
 top:∃ o,Limb.Own 128 w lo t.t.a t.t.n t.t.c o
 low:∃ o,Limb.Own 128 w lo t.l.a t.l.n t.l.c o
 ap:XA t.t.a t.l.a
 n:t.t.n<=900000000/\t.l.n<=900000000
theorem DF.town {g:FV} {f:Rat} (b:DF w lo g f) (d:LQ f 900000):TOwn w lo g:=⟨⟨_,b.t.own⟩,⟨_,b.l.own⟩,b.ap,by
 have:=b.k.len d zj
 exact⟨by have:=this.1;omega,by have:=this.2;omega⟩⟩
theorem TwF.town {h g:FV} {d f:Nat->Int} (b:TwF w lo h g d f) (i:g.t.n<=100000000) (j:g.l.n<=100000000):TOwn w lo h :=
 ⟨⟨_,by rw[b.top.n,b.top.c];exact b.top.own.less (Nat.le_succ _)⟩,⟨_,by rw[b.low.n,b.low.c];exact b.low.own.less (Nat.le_succ _)⟩,b.ap,by rw[b.top.n,b.low.n];omega⟩
theorem X5:∀ {g:List TV} {q:Nat} {d:HL},d∈J6 g q->∃ b∈g,d.q<q+2*g.length/\((d.a=b.c.t.a/\d.n=b.c.t.n/\d.c=b.c.t.c)\/(d.a=b.c.l.a/\d.n=b.c.l.n/\d.c=b.c.l.c))
 | [],_,_,f=>by cases f
 | b :: r,q,d,f=>by
  rcases List.mem_cons.1 f with rfl | f
  ·exact⟨b,List.mem_cons_self ..,by simp only[List.length_cons];omega,Or.inl ⟨rfl,rfl,rfl⟩⟩
  ·rcases List.mem_cons.1 f with rfl | f
   ·exact⟨b,List.mem_cons_self ..,by simp only[List.length_cons];omega,Or.inr ⟨rfl,rfl,rfl⟩⟩
   ·obtain⟨k,h,j,i⟩:=X5 f;exact⟨k,List.mem_cons_of_mem _ h,by simp only[List.length_cons];omega,i⟩
theorem blk_t {b:FV} {d:HL} (f:d.a=b.t.a/\d.n=b.t.n/\d.c=b.t.c\/d.a=b.l.a/\d.n=b.l.n/\d.c=b.l.c) {h:Addr} (g:d.a=some h):FV.blk b h.block:=by
 rcases f with ⟨f,-⟩ | ⟨f,-⟩
 ·exact Or.inl ⟨h,f.symm.trans g,rfl⟩
 ·exact Or.inr ⟨h,f.symm.trans g,rfl⟩
theorem YN:∀ {ts:List TV} {q:Nat},(∀ m∈ts,XA m.c.t.a m.c.l.a)->(ts.Pairwise λm p=>FV.apart m.c p.c)->Yt (J6 ts q)
 | [],_,_,_=>List.Pairwise.nil
 | m :: r,q,h,k=>by
  obtain⟨s,t⟩:=List.pairwise_cons.1 k;have v:=YN (ts:=r) (q:=q+2) (λp l=>h p (List.mem_cons_of_mem _ l)) t
  have far:∀ o∈J6 r (q+2),∀ i:Addr,o.a=some i->¬FV.blk m.c i.block:=λo b i k u=>by
   obtain⟨p,l,-,e⟩:=X5 b;exact s p l _ u (blk_t e k)
  refine List.pairwise_cons.2 ⟨λo b i g d f=>?_,List.pairwise_cons.2 ⟨λo b i g d f j=>?_,v⟩⟩
  ·rcases List.mem_cons.1 b with rfl | b
   ·exact h m (List.mem_cons_self ..) i g d f
   ·exact λj=>far o b g f (Or.inl ⟨i,d,j⟩)
  ·exact far o b g f (Or.inr ⟨i,d,j⟩)
theorem jax {k:List TV} {o:Nat->Value} (l:∀ i∈k,TOwn w lo i.c) (s:k.Pairwise λi v=>FV.apart i.c v.c) (m:Qe w lo a n c o) (r:n<=100000000) (t:q+2*k.length<=30000) :
  HG w lo (Bw lo w.heap.size) (J6 k q) [⟨a,n,c,q+2*k.length⟩] where
 num x b:=by
  obtain⟨i,d,-,⟨f,g,j⟩ | ⟨f,g,j⟩⟩:=X5 b
  ·obtain⟨o,h⟩:=(l i d).top;exact⟨⟨o,by rw[f,g,j];exact h⟩,by rw[g];exact(l i d).n.1⟩
  ·obtain⟨o,h⟩:=(l i d).low;exact⟨⟨o,by rw[f,g,j];exact h⟩,by rw[g];exact(l i d).n.2⟩
 row x b:=by rw[List.mem_singleton.1 b];exact⟨⟨o,m⟩,r⟩
 at_ x b p e:=by
  rcases List.mem_append.1 b with b | b
  ·obtain⟨i,d,-,⟨f,g,j⟩ | ⟨f,g,j⟩⟩:=X5 b
   ·obtain⟨o,h⟩:=(l i d).top;exact own_lt h (f.symm.trans e)
   ·obtain⟨o,h⟩:=(l i d).low;exact own_lt h (f.symm.trans e)
  ·rw[List.mem_singleton.1 b] at e;exact ownT_lt m e
 nq x b:=by
  rcases List.mem_append.1 b with b | b
  ·obtain⟨i,d,u,-⟩:=X5 b;omega
  ·rw[List.mem_singleton.1 b];exact t
 al:=YN (λi d=>(l i d).ap) s
 am:=List.pairwise_singleton _ _
theorem OT.ownT {s:Nat} {l:List TV} (u:OT w lo (.slice a s c) l) (j:n<=s):∃ o,Qe w lo a n c o:=by
 rcases u.2 with ⟨f,v⟩ | ⟨t,m,b,f,g,hg,h,p,r,i⟩
 ·injection f with e1 e2 e3
  subst e1 e2 e3;exact⟨λ_=>.bool true,⟨Zo,Or.inl ⟨rfl,Zo,rfl⟩⟩⟩
 ·injection f with e1 e2 e3
  subst e1 e2 e3;refine⟨λk=>b.getD k (.bool true),⟨Zo,Or.inr ⟨t,b,rfl,g,hg,Zo,λk x=>?_⟩⟩⟩
  have d:k<b.size:=by have:=Nat.mul_le_mul_right 8 (zm j h);omega
  rw[Array.getElem?_eq_getElem d,Array.getD_eq_getD_getElem?,Array.getElem?_eq_getElem d];rfl
theorem DP.hg {b:PV} {h:List Tm} (y:DP w lo b h) (r:∀ z∈h,LQ z.2 900000) (E:h.length<=10000) (F:q+2*h.length<=30000) :
  ∃ f:List TV,RT w b.a f/\f.length=b.n/\b.n=h.length/\HG w lo (Bw lo w.heap.size) (J6 f q) [⟨b.a,b.n,b.c,q+2*b.n⟩]:=by
 have d:=y.k.len;obtain⟨A,i,l,m,p⟩:=y.ex;obtain⟨v,g,x⟩:=b;change g=h.length at d;obtain⟨B,C,e,D,t⟩:=OT.slice i;change Value.slice v g x=_ at e
 injection e with e1 e2 e3
 subst e1 e3;obtain⟨o,s⟩:=OT.ownT (n:=g) i zj;refine⟨A.map Prod.fst,t,e2.symm,d,?_⟩
 have k:=jax (q:=q) (λz u=>by
  obtain⟨e,j,rfl⟩:=List.mem_map.1 u
  exact DF.town (l e j) (r (e.1.m,e.2) (by rw[<- p];exact List.mem_map.2 ⟨e,j,rfl⟩))) (List.pairwise_map.2 m) s Zo (by rw[<- e2];omega)
 rw[<- e2] at k;exact k
theorem TwP.hg {C:World} {i:PV} {f d:List TV} (j:TwP C w lo i f d) (z:∀ I∈d,I.c.t.n<=100000000/\I.c.l.n<=100000000) (M:d.length<=10000) (N:q+2*d.length<=30000) :
  RT w i.a f/\f.length=i.n/\HG w lo (Bw lo w.heap.size) (J6 f q) [⟨i.a,i.n,i.c,q+2*i.n⟩]:=by
 have p:=j.n;have G:=j.len;obtain⟨D,h,E⟩:=i;change h=d.length at p;obtain⟨J,K,e,L,y⟩:=OT.slice j.row;change Value.slice D (h+1) E=_ at e
 injection e with e1 e2 e3
 subst e1 e3;obtain⟨o,x⟩:=OT.ownT (n:=h) j.row (Nat.le_succ _);refine⟨⟨λH=>?_⟩,by show f.length=h;omega,?_⟩
 ·obtain⟨b,off,u,k⟩:=y.ex (by simp);exact⟨b,off,u,λr B g=>k r B (by rw[List.getElem?_append_left (List.getElem?_eq_some_iff.1 g).1];exact g)⟩
 ·have l:=jax (q:=q) (λB A=>by
   obtain⟨r,g⟩:=List.mem_iff_getElem?.1 A;have F:=(List.getElem?_eq_some_iff.1 g).1;have m:d[r]?=some d[r]:=List.getElem?_eq_getElem Zo;obtain⟨-,O,P,-,-,v⟩:=j.each r B _ g m;obtain⟨s,t⟩:=z _ (List.mem_of_getElem? m)
   exact TwF.town v s t) j.ap x Zo Zo
  rw[show f.length=h by omega] at l;exact l
end Book
namespace Pol
open Go.RowKit Go.Sort Limb
variable {w w':World} {A b i lo n:Nat}
theorem YO {k:Array Oper} {rest:List Oper} {j:Oper} {h:Act} {T:Exit->Act->World->Prop} (u:j.guard=none) (R S:Operand)
  (L:j.op=.call { callee:=.builtin .append,args:=#[R,S],argTypes:=#[22,22] })
  {o:World} {d:Nat} {v:Value} {g:List TE} (O:h.eval R=v) (p:ER o d v g) (X:g.length<=1000000000) (s:d<=o.heap.size)
  {l:Nat} {t:TV} {C:Rat} {V U:Nat} (P:h.eval S=.slice (some ⟨l,0,none⟩) V U) (H:Bxs o l 37 t.cells) (M:EF o d t.c C) (K:V=1)
  (G:∀ (z:PV) w',ER w' d z.v (g++[(t,C)])->Below d o w'->wpList prog k T rest (h.put j.dst z.v) w'):wpList prog k T (j :: rest) h o:=by
 subst K;obtain⟨Q,I,x,y,B⟩:=info_parts info8P;refine wpList_append_own _ u R S 22 L d 37 Q _ 8 72 underlying22 I x y B rfl Ze v _ _ O p.row ⟨l,0,none⟩ 1 U (TV.cells t) P rfl (λY Z J=>?_) (jh9 t) ?_ ?_ s ?_
 ·rw[Addr.add_lit,Nat.zero_add];exact H.cell J
 ·rw[List.length_map];unfold maxLen;omega
 ·rw[List.length_map];omega
 ·intro D w' m hg _
  have E:(g++[(t,C)]).map Prod.fst=g.map Prod.fst++[t]:=by rw[List.map_append];rfl
  have F:(g.map Prod.fst++[t]).flatMap TV.cells=(g.map Prod.fst).flatMap TV.cells++TV.cells t:=by rw[List.flatMap_append,List.flatMap_cons,List.flatMap_nil,List.append_nil]
  have N:OT w' d D ((g++[(t,C)]).map Prod.fst):=by
   rw[E];show w'.ownsRow _ _ _ _ _ _;rw[F,List.length_append];exact m
  have r:ER w' d D (g++[(t,C)]):=⟨N,λe f=>by
   rcases List.mem_append.1 f with f | f
   ·exact(p.num e f).grown p.row hg
   ·rw[List.mem_singleton.1 f]
    exact M.grown p.row hg⟩
  obtain⟨z,rfl,-⟩:=r.slice;exact G z w' r (zk.grown hg s (λW hg=>(World.ownsRow.lt p.row W hg).1))
theorem ZO {a:Addr} {v:Value} (f:w.cell? a=some v) (d:Bl w w'):w'.cell? a=some v:=(d.cell (block_lt_of_cell f)).trans f
structure RDI (V:World) (g nq:Nat) (Inv:DS->Prop) (rv lv:Value) (wr:World) (s:DS):Prop where
 ex:∃ (x r:PV) (Z:Nat->PV),lv=x.v/\rv=r.v/\EP wr V.heap.size x s.p/\EP wr V.heap.size r s.r/\wr.rowIs g 23 nq (λi=>(Z i).v)/\∀ (i:Nat) (q:List Tm),s.os[i]?=some q->EP wr V.heap.size (Z i) q
 inv:Inv s
 len:s.os.length=nq
 bel:Bl V wr
def RDivR (w:World) (o:Int) (ds:List Dv) (Inv:DS->Prop) (e:Ending) (w':World):Prop :=
 (∃ (g n:Nat) (Z:Nat->PV) (r:PV) (s:DS),e=.returned (.tuple #[.slice (some ⟨g,0,none⟩) n n,r.v,.int .i64 0])/\n=s.os.length/\n=ds.length/\w'.rowIs g 23 n (λi=>(Z i).v)/\(∀ (i:Nat) (q:List Tm),s.os[i]?=some q->EP w' w.heap.size (Z i) q)/\EP w' w.heap.size r s.r/\Inv s/\s.p=[]/\Bl w w') \/
 ∃ (s:DS) (t:Tm) (i:Nat) (d:Dv),e=.returned (.tuple #[.slice none 0 0,.slice none 0 0,.int .i64 3])/\Inv s/\Zr (JN o) s.p t/\VX ds t.1 i d/\Ovf d.2 [byT t d.1]/\Bl w w'
def okN:Value->Nat
 | .bool false=>1
 | _=>0
theorem RE.only {o:Nat} {k:TV} (g:RE w b o i k) (f:Only A w w') (d:b≠A):RE w' b o i k:=⟨Nat.lt_of_lt_of_le g.lt f.2.2.2.1,λj v h=>(World.cell?_of_block (a:=⟨b,o+i*8+j,none⟩) (f.2.2.2.2 b g.lt d)).trans (g.cell j v h)⟩
theorem EF.only0 {j:FV} {h:Rat} (f:EF w lo j h) (g:Only A w w') (k:w.heap.size<=A):EF w' lo j h:=f.kept λb d=>g.2.2.2.2 b (f.QV b d).2 (by have:=(f.QV b d).2;omega)
theorem EF.only1 {j:FV} {h:Rat} (f:EF w lo j h) (g:Only A w w') (k:A<lo):EF w' lo j h:=f.kept λb d=>g.2.2.2.2 b (f.QV b d).2 (by have:=(f.QV b d).1;omega)
theorem Zb.below {h:Mo} {j:Rat} (k:Zb w lo b h j) (f:Bl w w'):Zb w' lo b h j:=by
 obtain⟨l,d,g⟩:=k.ex;exact⟨l,d.below f d.lt,g.below f⟩
def Bx8 (w:World) (b:Nat):Prop:=∃ v0 v1 v2 v3 v4 v5 v6 v7,Bxs w b 37 [v0,v1,v2,v3,v4,v5,v6,v7]
def GX (A:Nat) (Φ:World->Prop) (a b:World):Prop:=Only A a b/\(Bx8 a A->Bx8 b A)/\(Φ a->Φ b)
theorem GX.refl (g:Nat) (d:World->Prop) (f:World):GX g d f f:=⟨⟨rfl,rfl,rfl,zj,λ_ _ _=>rfl⟩,id,id⟩
theorem GX.of_below {d:World->Prop} {a b:World} (g:Bl a b) (t:Bx8 a A) (s:d a->d b):GX A d a b:=⟨Only.of_below g,λ⟨h,j,k,l,m,o,p,r,f⟩=>⟨h,j,k,l,m,o,p,r,f.below g f.lt⟩,s⟩
theorem jcu (u:World) (s:Nat) (g h j l m o p r:Value):Only s u (Xr u s g h j l m o p r):=by
 have d:∀ (t:World) (i:Nat) (v:Value),Only s t (t.setCell ⟨s,i,none⟩ v):=λt i v=>⟨rfl,rfl,rfl,by simp,λk _ f=>Below.heap_setCell _ _ _ _ f⟩
 exact(((((((d _ 0 g).trans (d _ 1 h)).trans (d _ 2 j)).trans (d _ 3 l)).trans (d _ 4 m)).trans (d _ 5 o)).trans (d _ 6 p)).trans (d _ 7 r)
theorem tup8 {c4 c5 g h:Value} {d f:FV} (t:Value.tuple #[.agg #[.bool d.t.s,.slice d.t.a d.t.n d.t.c,.bool d.l.s,.slice d.l.a d.l.n d.l.c,c4,c5,g,h],.bool true]=.tuple #[.agg #[.bool f.t.s,.slice f.t.a f.t.n f.t.c,.bool f.l.s,.slice f.l.a f.l.n f.l.c,c4,c5,g,h],.bool true]):d=f:=FV.inj (by
 simp only[Value.tuple.injEq,Value.agg.injEq,Value.bool.injEq,Value.slice.injEq,Array.mk.injEq,List.cons.injEq] at t;obtain⟨⟨j,⟨k,l,m⟩,o,⟨p,r,s⟩,-⟩,-⟩:=t;show Value.agg #[.bool d.t.s,.slice d.t.a d.t.n d.t.c,.bool d.l.s,.slice d.l.a d.l.n d.l.c]=.agg #[.bool f.t.s,.slice f.t.a f.t.n f.t.c,.bool f.l.s,.slice f.l.a f.l.n f.l.c]
 rw[j,k,l,m,o,p,r,s])
theorem jli {h:FV} {f:Mo} {g:Rat} (k:Bxs w b 37 (TV.cells ⟨h,f⟩)) (r:KF w h g) (o:f.Small) (j:g≠0):KP w ⟨some ⟨b,0,none⟩,1,1⟩ [(f,g)]:=by
 refine⟨⟨[(⟨h,f⟩,g)],⟨λ_=>⟨b,0,rfl,λi s d u v m=>?_⟩⟩,rfl,λe l=>?_,rfl⟩,zj,QJ j,λs p=>?_⟩
 ·match i,d with
  | 0,d =>
   obtain rfl:(⟨h,f⟩:TV)=s:=Option.some.inj d;have t:=k.cell m
   simpa using t
 ·rw[List.mem_singleton.1 l];exact r
 ·rw[List.mem_singleton.1 p];exact o
theorem jlj {V:World} {h:FV} {d:Mo} {j:Rat} (p:EF V lo h j) (g:lo<=V.heap.size) (m:d.Small) (k:j≠0):EP (V.alloc (.cells (TV.cells ⟨h,d⟩).toArray 37)) lo ⟨some ⟨V.heap.size,0,none⟩,1,1⟩ [(d,j)]:=by
 have f:Bl V (V.alloc (.cells (TV.cells ⟨h,d⟩).toArray 37)):=zk.alloc zj _;refine⟨⟨[(⟨h,d⟩,j)],⟨?_,λe l=>?_⟩,rfl⟩,QJ k,λr o=>?_⟩
 ·show World.ownsRow _ _ _ _ _ _ _;exact World.ownsRow_lit (base:=lo) (e:=37) (size:=8) V (TV.cells ⟨h,d⟩).toArray 1 g Ze rfl
 ·rw[List.mem_singleton.1 l];exact p.below f
 ·rw[List.mem_singleton.1 o];exact m
theorem ER.get {p:Nat} {a:Option Addr} {m:List TE} (r:ER w lo (.slice a n p) m) {e:TE} (d:m[i]?=some e):∃ b o,a=some ⟨b,o,none⟩/\RE w b o i e.1:=by
 obtain⟨f,c2,g,-,l⟩:=OT.slice r.row
 obtain rfl:a=f:=by injection g
 obtain⟨b,o,j,k⟩:=l.one (λh=>by rw[List.map_eq_nil_iff.1 h] at d;simp at d);exact⟨b,o,j,k i e.1 (by rw[List.getElem?_map,d];rfl)⟩
theorem row_rows {h:Nat} {f:Nat->Value} (m:w.rowIs h 23 n f) (o:Nat) (v:Value):∀ (b:Nat) (c:Array Value) (g:TypeId),w.heap[b]?=some (.cells c g (0,0))->(g==37 || g==128)=true->(w.setCell ⟨h,o,none⟩ v).heap[b]?=w.heap[b]?:=λb c g k j =>
 Below.heap_setCell _ _ _ _ λe=>by
  have e:b=h:=e;subst e;obtain⟨l,d,-⟩:=m;rw[k] at d
  have:g=23:=by injection d with d;injection d
  subst this;exact absurd j Ze
theorem jlk (o:Int) (dS:PV) (ch:List Tm) (a:Option Addr) (c:Nat) (qs:List (PV × List Tm)) (ds:List Dv) (aC:DS->Prop) (μ:DS->Nat) (k kd nd n:Nat) (w:World) (ho:o<=2) (hp:KP w dS ch) (hr:RS w a (qs.map Prod.fst)) (hq:∀ q∈qs,KP w q.1 q.2)
  (b0:ds.map Prod.snd=qs.map Prod.snd) (hP:DivP o ds aC μ k kd nd n) (h0:aC ⟨ch,[],List.replicate ds.length []⟩) (hn:qs.length<=1000) :
  Cl 25 #[.int .u8 o,dS.v,.slice a qs.length c] w (RDivR w o ds aC):=by
 have hk:=hP.hk;have cH:=hP.hkk;have cJ:=hP.hn;have cK:=hP.hnd
 have cE:∀ (s:Nat) (q:PV × List Tm),qs[s]?=some q->∃ l,ds[s]?=some l/\l.2=q.2/\(∀ P∈q.2,LQ P.2 kd)/\q.2.length<=nd/\Zr (JN o) q.2 l.1:=λs q hj=>by
  have p:=congrArg (λd5:List (List Tm)=>d5[s]?) b0;simp only[List.getElem?_map] at p;rw[hj] at p;obtain⟨l,hd,e⟩:=Option.map_eq_some_iff.1 p;obtain⟨S,g2,R⟩:=hP.dl l (List.mem_of_getElem? hd);have e:l.2=q.2:=e;rw[e] at S g2 R;exact⟨l,hd,e,S,g2,R⟩
 have af:=hP.len _ h0;have b2:=hP.lq _ h0;have bT:=qh hp;have CK:=qh<|Y4 hp (λP D=>(b2.1 P D).up Zo) (by rw[hp.len];have:=af.1;show ch.length<=_;change ch.length<=n at this;omega);have dq:=qh (show ∀ P∈ch,LQ P.2 400000 from λP D=>(b2.1 P D).up Zo);have dn:=qh (show dS.n<=1000000 by rw[hp.len];have:=af.1;change ch.length<=n at this;omega);obtain⟨nq,bH⟩:=gn qs.length;have bm:=qh bH;have aA:=qh (show ds.length=nq by rw[bH,<- List.length_map (f:=Prod.snd (α:=Tm)),b0,List.length_map]);have be:=qh hP;have cp:=qh h0;have HQ:=qh hq;have bf:=qh cE;have bW:=qh hr;have aK:=qh (show nq<=1000 by omega);have W:=qh hk;have d7:=qh cH;have aY:=qh cJ;have aZ:=qh cK;have ec:¬(2<o):=Zo;rw[<- bH];obtain⟨pa,pn,pc⟩:=dS;clear hk cH cJ cK cE af b2 hp hr hq b0 hP h0 hn bH ho;change Cl 25 #[.int .u8 o,.slice pa pn pc,.slice a nq c] w _;go_enter func25,ntmps25;go_wp2_with fail
 with_reducible refine CK.o.mono ?_
 rintro e w1 ⟨rfl,g⟩;have h:=qh g;clear g CK;go_wp2;go_loopw [9] (λi wr=>∃ s:Nat,s<=nq/\i=.int .i64 s/\Bl w wr) (λi _=>nq-(intOf i).toNat)
 case atStart=>exact⟨0,Nat.zero_le _,rfl,h.o⟩
 case round =>
  obtain⟨s,hj,rfl,aj⟩:=hrel;have HJ:=qh hj;have h:=qh aj;clear hj aj;by_cases I:s<nq
  ·have L:=qh I;have b3:(s:Int)<(nq:Int):=Zo;obtain⟨⟨⟨T,N,U⟩,bL⟩,C⟩:∃ q,qs[s]?=some q:=⟨_,List.getElem?_eq_getElem (by rw[<- bm.o];exact I)⟩;obtain⟨l,-,-,S,g2,-⟩:=bf.o s _ C;have J:=HQ.o _ (List.mem_of_getElem? C);obtain⟨pb,po,rfl,am⟩:=(bW.o.below h.o).ex (λe=>by rw[List.map_eq_nil_iff] at e;rw[e] at C;simp at C);have hc:=am s ⟨T,N,U⟩ (by rw[List.getElem?_map,C];rfl);have ck:=qh<|show Cl 91 #[.slice T N U] wr _ from Y4 (x:=⟨T,N,U⟩) (J.below h.o) (λP D=>(S P D).up (Zh W)) (by have p:N=bL.length:=J.len;have h2:bL.length<=nd:=g2;have:=aZ.o;show N<=_;omega);have ek:IntKind.i64.wrap ((s:Int)+1)=(s:Int)+1:=IntWalk.i64_in _ (Zi L aK);change wr.cell? ⟨pb,po+s,none⟩=some (.slice T N U) at hc;clear I S g2 J am C;go_wp2_with fail
   with_reducible refine ck.o.mono ?_
   rintro e w2 ⟨rfl,g⟩;have h:=qk h g;clear g ck hc;go_wp2;go_roundw
   case rel=>exact⟨s+1,L.o,rfl,h.o⟩
   case measure=>simp[intOf];have:=L.o;omega
  ·have bG:¬((s:Int)<(nq:Int)):=Zo;clear I;go_wp2;go_loopw [10,11] (λv i wr=>∃ (s:Nat) (z:PV) (cc:List TE),s<=nq/\v=z.v/\i=.int .i64 s/\ER wr w.heap.size z.v cc/\cc.map tm=(ds.take s).map Prod.fst/\Bl w wr) (λ_ i _=>nq-(intOf i).toNat)
   case atStart=>exact⟨0,⟨none,0,0⟩,[],Nat.zero_le _,rfl,rfl,ER.nil,rfl,h.o⟩
   case round =>
    clear h HJ bG;obtain⟨s,⟨la,M,lc⟩,cc,hj,hv,rfl,cG,hL,aj⟩:=hrel;obtain rfl:_=Value.slice la M lc:=hv;have HJ:=qh hj;have X:=qh cG;have HL:=qh hL;have h:=qh aj;have bQ:=qh (show cc.length=s by have p:=congrArg List.length hL;rw[List.length_map,List.length_map,List.length_take,aA.o] at p;omega);clear hj cG hL aj;by_cases I:s<nq
    ·have L:=qh I;have b3:(s:Int)<(nq:Int):=Zo;obtain⟨⟨⟨T,N,U⟩,bL⟩,C⟩:∃ q,qs[s]?=some q:=⟨_,List.getElem?_eq_getElem (by rw[<- bm.o];exact I)⟩;obtain⟨l,hd,-,S,g2,R⟩:=bf.o s _ C;have J:=HQ.o _ (List.mem_of_getElem? C);have ag:=qh hd;have cO:=qh R;have bk:=qh J;obtain⟨pb,po,rfl,am⟩:=(bW.o.below h.o).ex (λe=>by rw[List.map_eq_nil_iff] at e;rw[e] at C;simp at C);have hc:=am s ⟨T,N,U⟩ (by rw[List.getElem?_map,C];rfl);have LD:=qh<|show Cl 9 #[.int .u8 o,.slice T N U] wr _ from Vw o ⟨T,N,U⟩ bL wr (J.below h.o).any (λP D=>(S P D).up (Zh W)) (by have p:N=bL.length:=J.len;have h2:bL.length<=nd:=g2;have:=aZ.o;show N<=_;omega) (λe=>by have:=R.1;change l.1∈bL at this;rw[e] at this;cases this);have ek:IntKind.i64.wrap ((s:Int)+1)=(s:Int)+1:=IntWalk.i64_in _ (Zi L aK);have df:=qh ek;change wr.cell? ⟨pb,po+s,none⟩=some (.slice T N U) at hc;clear I S g2 R J am C hd ek;go_wp2_with fail
     with_reducible refine LD.o.mono ?_
     rintro e w2 ⟨ab,⟨dM,q⟩,rfl,hy,ao,g⟩;have HY:=qh<|show EF w2 w.heap.size ab q from hy.mono h.o.size;have du:=qh<|show(dM,q)=l.1 from XU (Kz o) bk.o.canon (λP D=>let ⟨S,g2,R,g4⟩:=bk.o.small P D;⟨S,g2,R,g4⟩) ao cO.o;have X:=qh<|X.o.below g;have h:=qk h g;clear hy ao g LD hc
     go_upto_region 13 with (fail)
     obtain⟨ai,hV⟩:=gn (w2.alloc (.cells (cTv ab dM).toArray 37));have bE:=bq hV (zk.alloc zj _);have cj:=qh<|al hV;obtain⟨d6,ba⟩:=gn w2.heap.size;rw[<- hV,<- ba];rw[<- ba] at cj;have X:=qh<|X.o.below bE;have HY:=qh<|HY.o.below bE;have h:=qk h bE;clear hV bE ba;have ek:=df.o;obtain⟨dU,dV,dW,dX,dY,dZ,d0,d1⟩:=cj.o.c8;go_wp2_with (first | (at_builtin;refine YO (t:=⟨ab,dM⟩) rfl _ _ rfl rfl (X.o.alloc _) (by rw[bQ.o];have:=L.o;have:=aK.o;omega) (by have h9:=h.o.size;rw[World.size_alloc];omega) rfl (Bxs.new _ _ _) (HY.o.alloc _) rfl ?_))
     intro z9 w9 b1 cB;obtain⟨dN,dP,dO⟩:=z9;have da:=qh b1;have db:=qh<|cB.ofAlloc h.o.size;clear b1 cB;go_wp2;go_roundw
     case rel =>
      refine⟨s+1,⟨dN,dP,dO⟩,cc++[(⟨ab,dM⟩,q)],L.o,rfl,rfl,da.o,?_,h.o.trans db.o⟩;rw[List.map_append,HL.o,List.take_add_one,ag.o,List.map_append];show _++[(dM,q)]=_++[l.1];rw[du.o]
     case measure=>simp[intOf];have:=L.o;omega
    ·have bG:¬((s:Int)<(nq:Int)):=Zo
     have HL:=qh (show cc.map tm=ds.map Prod.fst by
      have p:=HL.o
      rwa [List.take_of_length_le (by rw[aA.o];omega)] at p)
     have bR:=qh (show cc.length=nq by rw[bQ.o];have:=HJ.o;omega)
     obtain rfl:M=nq:=by
      obtain⟨a2,c2,e2,-,-⟩:=OT.slice X.o.row;have e2:Value.slice la M lc=.slice a2 (cc.map Prod.fst).length c2:=e2;rw[List.length_map] at e2
      injection e2 with _ e2 _
      rw[e2,bR.o]
     have dE:=run_make_row' (P:=prog) 40 23 (.slice none 0 0) 24 underlying40 infoPq rfl .i64 .i64 M (Zh aK) (Zh aK);clear I HJ bQ
     go_upto_region 18 with (fail)
     obtain⟨ai,hV⟩:=gn (wr:World);obtain⟨aI,hg⟩:=gn wr.heap.size;obtain⟨dQ,hW⟩:=gn (wr.alloc (.cells (madeCells #[.slice none 0 0] M) 23));have cC:=bq hW (zk.alloc zj _);have j:=qh (show dQ.rowIs aI 23 M (λi=>((λ_=>⟨none,0,0⟩:Nat->PV) i).v) by rw[hW,hg];exact World.rowIs_made wr (.slice none 0 0) M 23);rw[<- hW,<- hg];have KV:=qh<|bq hV h.o;have X:=qh (show ER ai w.heap.size (.slice la M lc) cc by rw[hV];exact X.o);have h:=qh (show Bl ai dQ by rw[hV];exact cC);have di:=qh (show ai.heap.size<=aI by rw[hV,hg];exact zj);have CO:=qh<|show Cl 93 #[.int .i64 1] dQ _ from rofV 1 dQ Zo Zo;clear hV hg hW cC dE bG;go_wp2_with fail
     with_reducible refine CO.o.mono ?_
     rintro e w2 ⟨dd,rfl,hd,g⟩;have h:=qk h g;have j:=qh<|j.o.of_block (g.block aI j.o.lt);have CS:=qh<|show Cl 92 #[.slice pa pn pc,.agg #[.bool dd.t.s,.slice dd.t.a dd.t.n dd.t.c,.bool dd.l.s,.slice dd.l.a dd.l.n dd.l.c]] w2 _ from U8 ⟨pa,pn,pc⟩ ch dd 1 w2 ((bT.o.below KV.o).below h.o).any (λP D=>(dq.o P D).up Zo) dn.o hd.k.any (hd.k.len (LQ.int (n:=1) Zo Zo) Zo) ((LQ.int (n:=1) Zo Zo).up Zo);rw[jcp bT.o.canon] at CS;clear hd g CO;go_wp2_with fail
     with_reducible refine CS.o.mono ?_
     rintro e w3 ⟨⟨xa,Q,xc⟩,he,hx,g⟩;obtain rfl:e=.returned (.slice xa Q xc):=he;have K:=qh<|hx.mono h.o.size;have h:=qk h g;have j:=qh<|j.o.of_block (g.block aI j.o.lt);clear hx g CS;go_wp2;go_loopw [15,16] (λrv lv wr=>∃ V,RDI ai aI M aC rv lv wr V) (λrv lv wr=>V9 (RDI ai aI M aC rv lv wr) μ)
     case atStart =>
      refine⟨⟨ch,[],List.replicate ds.length []⟩,⟨⟨⟨xa,Q,xc⟩,⟨none,0,0⟩,λ_=>⟨none,0,0⟩,rfl,rfl,K.o,EP.nil,j.o,λi q y=>?_⟩,cp.o,?_,h.o⟩⟩
      ·have p:=List.mem_of_getElem? y;rw[(List.mem_replicate.1 p).2];exact EP.nil
      ·show(List.replicate ds.length ([]:List Tm)).length=M;rw[List.length_replicate,aA.o]
     case round =>
      clear K h j cp bT;obtain⟨V,hs,cI⟩:=jgd (μ:=μ) hrel;clear hrel;obtain⟨⟨⟨xa,Q,xc⟩,⟨ra,rn,rc⟩,bB,dD,dI,hx,b6,b5,b7⟩,aR,af,aj⟩:=hs;obtain rfl:_=Value.slice xa Q xc:=dD;obtain rfl:_=Value.slice ra rn rc:=dI;have cu:=qh cI;have K:=qh hx;have u:=qh b6;have j:=qh b5;have B:=qh b7;have bj:=qh aR;have bn:=qh af;have h:=qh aj;have aJ:=qh<|be.o.lq V aR;have aX:=qh<|be.o.len V aR;have a5:=qh<|show Q=V.p.length from hx.k.len;have dr:=qh<|show rn=V.r.length from b6.k.len
      have cw:=qh (show ∀ q∈V.os,Canon q from λq hq=>by
       obtain⟨i,y⟩:=List.mem_iff_getElem?.1 hq
       exact(b7 i q y).canon)
      clear cI hx b6 b5 b7 aR af aj;by_cases hz:V.p=[]
      ·have dH:¬((Q:Int)>0):=by have p:=a5.o;rw[hz] at p;change Q=0 at p;omega
       have d3:¬((0:Int)<(Q:Int)):=dH;have HZ:=qh hz;clear hz;go_wp2;go_ret3;exact Or.inl ⟨aI,M,bB,⟨ra,rn,rc⟩,V,rfl,bn.o.symm,aA.o.symm,j.o,λi q y=>(B.o i q y).mono KV.o.size,u.o.mono KV.o.size,bj.o,HZ.o,KV.o.trans (h.o.mono KV.o.size)⟩
      ·have c9:(Q:Int)>0:=by have p:=a5.o;have:=List.length_pos_iff.2 hz;omega
       have dR:(0:Int)<(Q:Int):=c9;have LD:=qh<|show Cl 9 #[.int .u8 o,.slice xa Q xc] wr _ from Vw o ⟨xa,Q,xc⟩ V.p wr K.o.k.any (λP D=>(aJ.o.1 P D).up (Zh W)) (by have:=a5.o;have:=aX.o.1;have:=aY.o;show Q<=_;omega) hz;clear hz;go_wp2_with fail
       with_reducible refine LD.o.mono ?_
       rintro e w4 ⟨ab,⟨d,t⟩,rfl,hy,ao,g⟩;have bP:=qh ao;have HY:=qh<|hy.mono h.o.size;have K:=qh<|K.o.below g;have u:=qh<|u.o.below g;have j:=qh<|j.o.of_block (g.block aI j.o.lt);have B:=qh (show ∀ i q,V.os[i]?=some q->EP _ ai.heap.size (bB i) q from λi q y=>(B.o i q y).below g);have h:=qk h g;have bs:=qh<|show d.Small from K.o.small _ ao.1;have cz:=qh<|show t≠0 from K.o.canon.non _ ao.1;have br:=qh<|show LQ t k from aJ.o.1 _ ao.1;clear hy ao g LD
       go_upto_region 21 with (fail)
       obtain⟨W0,bC⟩:=gn (w4.alloc (.cells (cTv ab d).toArray 37));have aa:=bq bC (zk.alloc zj _);have ac:=qh<|al bC;obtain⟨aS,bb⟩:=gn w4.heap.size;rw[<- bC,<- bb];rw[<- bb] at ac;have K:=qh<|K.o.below aa;have u:=qh<|u.o.below aa;have j:=qh<|j.o.of_block (aa.block aI j.o.lt);have B:=qh (show ∀ i q,V.os[i]?=some q->EP _ ai.heap.size (bB i) q from λi q y=>(B.o i q y).below aa);have h:=qk h aa;have HY:=qh<|HY.o.below aa;have cT:=qh h.o.size;have cg:=qh ac.o.lt;clear bC aa bb
       go_upto_region 23 with (fail)
       obtain⟨W1,bD⟩:=gn (W0.alloc (.cells zTv.toArray 37));have bZ:=bq bD (zk.alloc zj _);have H:=qh<|al bD;obtain⟨r,bc⟩:=gn W0.heap.size;rw[<- bD,<- bc];rw[<- bc] at H;have Y:=qh<|show Bt W0 W1 from⟨bZ⟩;have aQ:=qh (show W0.heap.size<=r by omega);have bu:=qh (show ai.heap.size<=r by have:=cT.o;omega);have cv:=qh (show aS≠r by have:=cg.o;omega);clear bD bZ bc;go_wp2;go_loopw [19,21] (λkv ov wi=>∃ (s:Nat),kv=.int .i64 s/\s<=M/\(∀ (i:Nat) (e:Dv),i<s->ds[i]?=some e->¬e.1.1.stands d)/\Bl W0 wi/\((ov=.bool false/\Bxs wi r 37 zTv)\/(ov=.bool true/\∃ (l:Dv) (F:FV),ds[s]?=some l/\l.1.1.stands d/\Bxs wi r 37 [.bool F.t.s,.slice F.t.a F.t.n F.t.c,.bool F.l.s,.slice F.l.a F.l.n F.l.c,.int .u16 (d.quo l.1.1).x,.int .u16 (d.quo l.1.1).y,.int .u16 (d.quo l.1.1).z,.int .u16 (d.quo l.1.1).t]/\EF wi W0.heap.size F (t/l.1.2)))) (λkv ov _=>(M-(intOf kv).toNat)+okN ov)
       case atStart=>exact⟨0,rfl,Nat.zero_le _,λi e p=>absurd p (Nat.not_lt_zero _),Y.o.b,Or.inl ⟨rfl,H.o⟩⟩
       case round =>
        clear Y H;obtain⟨s,rfl,hj,cL,ak,ci⟩:=hrel;have HJ:=qh hj;have a0:=qh cL;have Y:=qh<|show Bt W0 wr from⟨ak⟩;have ac:=qh<|ac.o.bl ak;have K:=qh<|K.o.below ak;have u:=qh<|u.o.below ak;have j:=qh<|j.o.of_block (ak.block aI j.o.lt);have B:=qh (show ∀ i q,V.os[i]?=some q->EP _ ai.heap.size (bB i) q from λi q y=>(B.o i q y).below ak);have h:=qk h ak;clear hj cL ak
        rcases ci with ⟨rfl,aD⟩ | ⟨rfl,l,F,an,ae,aD,hu⟩
        ·have H:=qh aD;clear aD;by_cases I:s<M
         ·have L:=qh I;have b3:(s:Int)<(M:Int):=Zo;obtain⟨l,an⟩:∃ l,ds[s]?=some l:=⟨_,List.getElem?_eq_getElem (by rw[aA.o];exact I)⟩;obtain⟨e,bF⟩:∃ e,cc[s]?=some e:=⟨_,List.getElem?_eq_getElem (by rw[bR.o];exact I)⟩
          have cF:(e.1.m,e.2)=l.1:=by
           have p:=congrArg (λd5:List Tm=>d5[s]?) HL.o;simp only[List.getElem?_map] at p;rw[bF,an] at p;exact Option.some.inj p
          have cn:=qh cF;have ag:=qh an;obtain⟨lb,lo,rfl,b4⟩:=X.o.get bF;have bN:=qh<|X.o.num e (List.mem_of_getElem? bF);have cs:=qh b4.lt;have E1:=qh<|b4.below h.o;obtain⟨⟨qv,bL⟩,C⟩:∃ q,qs[s]?=some q:=⟨_,List.getElem?_eq_getElem (by rw[<- bm.o];exact I)⟩;obtain⟨d2,a7,-,S,-,R⟩:=bf.o s _ C;obtain rfl:l=d2:=Option.some.inj (an.symm.trans a7);have J:=HQ.o _ (List.mem_of_getElem? C);have cm:=qh<|show l.1.1.Small from J.small _ R.1;have bg:=qh<|show l.1.2≠0 from J.canon.non _ R.1;have a9:=qh<|show LQ l.1.2 kd from S _ R.1;clear I an bF cF b4 C a7 S R J;have bh:=qh<|show e.1.m=l.1.1 from congrArg Prod.fst cn.o;have bO:=qh<|show e.2=l.1.2 from congrArg Prod.snd cn.o;have co:=qh (show e.1.m.Small by rw[bh.o];exact cm.o);have dh:=qh (show e.2≠0 by rw[bO.o];exact bg.o);have dl:=qh<|show LF ab 900000 from HY.o.k.len br.o (Zh W);have dk:=qh<|show LF e.1.c 900000 from bN.o.k.len (show LQ e.2 kd by rw[bO.o];exact a9.o) (Zh W);have ek:IntKind.i64.wrap ((s:Int)+1)=(s:Int)+1:=IntWalk.i64_in _ (Zi L aK);by_cases ae:l.1.1.stands d
          ·have aL:=qh ae;have bX:=qh (show e.1.m.stands d by rw[bh.o];exact ae);clear ae;have cr:=qh H.o.lt;have aV:=qh<|show Bx8 wr r from⟨_,_,_,_,_,_,_,_,H.o⟩;have aU:=qh (show ∀ w',Only r wr w'->Bxs w' aS 37 (cTv ab d) from λw' p=>(p.2.2.2.2 aS ac.o.lt cv.o).trans ac.o);have aW:=qh (show ∀ w',Only r wr w'->RE w' lb lo s e.1 from λw' p=>E1.o.only p (Zi cs bu));have bv:=qh (show ∀ w',Only r wr w'->KF w' ab t from λw' p=>(HY.o.only0 ((Only.of_below Y.o.b).trans p) aQ.o).k);have bi:=qh (show ∀ w',Only r wr w'->KF w' e.1.c e.2 from λw' p=>(bN.o.only0 ((Only.of_below h.o).trans p) bu.o).k)
           go_upto_region 25 with (fail)
           refine Go.FreshH.Jd 10 (Go.FreshH.JI [(5,Go.FreshH.Sp.made (λx:FV=>Value.tuple #[.agg #[.bool x.t.s,.slice x.t.a x.t.n x.t.c,.bool x.l.s,.slice x.l.a x.l.n x.l.c,.int .u16 (d.quo l.1.1).x,.int .u16 (d.quo l.1.1).y,.int .u16 (d.quo l.1.1).z,.int .u16 (d.quo l.1.1).t],.bool true]) (λx w'=>EF w' wr.heap.size x (t/l.1.2))),(9,((λv=>v=undef),λ_ w'=>(λw'=>Zb w' wr.heap.size r (d.quo l.1.1) (t/l.1.2)) w'))])
            (G:=GX r (λw'=>Zb w' wr.heap.size r (d.quo l.1.1) (t/l.1.2))) (λw'=>Only r wr w'/\Bx8 w' r) Zk Zk
            (Go.FreshH.Jb (Go.FreshH.Sp.Jf λx w w' p hG=>p.only1 hG.1 cr.o) (Go.FreshH.Jb (λv w w' p hG=>hG.2.2 p) Go.FreshH.Jh))
            ⟨λw=>GX.refl _ _ w,λ_ _ p hG=>⟨p.1.trans hG.1,hG.2.1 p.2⟩⟩ ⟨Only.of_below zk.drew,aV.o⟩ ?_
           simp only[zu,zi,ze,zx,zy,zv,zw]
           iterate 5
            refine Go.FreshH.rdw (λw' m=>by have Z:=aU.o w' m.1;obtain⟨aq,ar,au,av,aw,ax,ay,az,aO,aP⟩:=Z.d8;obtain⟨aq,ar,au,av,aw,ax,ay,az⟩:=(aW.o w' m.1).eight;go_simp;try rfl) ?_
           refine Go.FreshH.Jc rfl rfl (λw' E=>?_) ?_
           ·have m:=E.world;clear E;go_simp
            have CB:Cl 94 #[.agg #[.bool ab.t.s,.slice ab.t.a ab.t.n ab.t.c,.bool ab.l.s,.slice ab.l.a ab.l.n ab.l.c,.int .u16 d.x,.int .u16 d.y,.int .u16 d.z,.int .u16 d.t],.agg #[.bool e.1.c.t.s,.slice e.1.c.t.a e.1.c.t.n e.1.c.t.c,.bool e.1.c.l.s,.slice e.1.c.l.a e.1.c.l.n e.1.c.l.c,.int .u16 e.1.m.x,.int .u16 e.1.m.y,.int .u16 e.1.m.z,.int .u16 e.1.m.t]] w' (λe2 aE=>∃ x:FV,e2=.returned (.tuple #[TV.v ⟨x,d.quo l.1.1⟩,.bool true])/\EF aE w'.heap.size x (t/l.1.2)/\Bl w' aE):=by
             rw[<- bh.o,<- bO.o];exact rby_y ⟨ab,d⟩ e.1 t e.2 w' (bv.o w' m.1) dl.o (bi.o w' m.1) dk.o bs.o co.o bX.o dh.o
            with_reducible refine CB.mono ?_
            rintro e2 aE ⟨x,rfl,hx,g⟩;exact⟨_,rfl,⟨⟨x,rfl⟩,⟨x,rfl,hx.mono m.1.2.2.2.1⟩⟩,GX.of_below g m.2 λp=>p.below g⟩
           rintro _ ⟨F,rfl⟩
           conv=>arg 10;simp only[Act.put,zq0,zq1,zq2]
           iterate 3
            refine Go.FreshH.rd0 ?_
           refine Go.FreshH.Jc rfl rfl (λw' E=>?_) ?_
           ·have m:=E.world;obtain⟨x,ex,hx⟩:=E.fact 5 Zk;obtain rfl:F=x:=tup8 ex;clear E;obtain⟨v0,v1,v2,v3,v4,v5,v6,v7,Z⟩:=m.2;obtain⟨aq,ar,au,av,aw,ax,ay,az,aO,aP⟩:=Z.d8;go_simp;have hN:Zb (Xr w' r (.bool F.t.s) (.slice F.t.a F.t.n F.t.c) (.bool F.l.s) (.slice F.l.a F.l.n F.l.c) (.int .u16 (d.quo l.1.1).x) (.int .u16 (d.quo l.1.1).y) (.int .u16 (d.quo l.1.1).z) (.int .u16 (d.quo l.1.1).t)) wr.heap.size r (d.quo l.1.1) (t/l.1.2):=⟨⟨F,J9 Z ..,jdx hx Z Ze ..⟩⟩;exact⟨hN,jcu ..,λ_=>⟨_,_,_,_,_,_,_,_,J9 Z ..⟩,λ_=>hN⟩
           rintro _ rfl
           conv=>arg 10;simp only[Act.put,zq0,zq1,zq2]
           refine Go.FreshH.Jn (λw6 a6 hF=>?_);obtain⟨⟨u2,Z,hE⟩⟩:=(show Zb w6 wr.heap.size r (d.quo l.1.1) (t/l.1.2) from hF 9);have H:=qh Z;have HU:=qh<|hE.mono Y.o.b.size;have Y:=qh<|show Bt W0 w6 from⟨Y.o.b.trans (a6.1.below aQ.o Y.o.b.size)⟩;clear hF a6 Z hE aV aU aW bv bi;go_wp2;go_roundw
           case rel=>exact⟨s,rfl,HJ.o,a0.o,Y.o.b,Or.inr ⟨rfl,l,u2,ag.o,aL.o,H.o,HU.o⟩⟩
           case measure=>simp[okN]
          ·have aL:=qh ae;have bX:=qh (show ¬e.1.m.stands d by rw[bh.o];exact ae);clear ae;have cr:=qh H.o.lt;have aV:=qh<|show Bx8 wr r from⟨_,_,_,_,_,_,_,_,H.o⟩;have aU:=qh (show ∀ w',Only r wr w'->Bxs w' aS 37 (cTv ab d) from λw' p=>(p.2.2.2.2 aS ac.o.lt cv.o).trans ac.o);have aW:=qh (show ∀ w',Only r wr w'->RE w' lb lo s e.1 from λw' p=>E1.o.only p (Zi cs bu));have bv:=qh (show ∀ w',Only r wr w'->KF w' ab t from λw' p=>(HY.o.only0 ((Only.of_below Y.o.b).trans p) aQ.o).k);have bi:=qh (show ∀ w',Only r wr w'->KF w' e.1.c e.2 from λw' p=>(bN.o.only0 ((Only.of_below h.o).trans p) bu.o).k)
           go_upto_region 25 with (fail)
           refine Go.FreshH.Jd 10 (Go.FreshH.JI [(5,Go.FreshH.Sp.know (.tuple #[.agg #[.bool false,.slice none 0 0,.bool false,.slice none 0 0,.int .u16 0,.int .u16 0,.int .u16 0,.int .u16 0],.bool false])),(9,((λv=>v=undef),λ_ w'=>(λw'=>Bxs w' r 37 zTv) w'))])
            (G:=GX r (λw'=>Bxs w' r 37 zTv)) (λw'=>Only r wr w'/\Bx8 w' r) Zk Zk
            (Go.FreshH.Jb (Go.FreshH.Sp.Jk _) (Go.FreshH.Jb (λv w w' p hG=>hG.2.2 p) Go.FreshH.Jh))
            ⟨λw=>GX.refl _ _ w,λ_ _ p hG=>⟨p.1.trans hG.1,hG.2.1 p.2⟩⟩ ⟨Only.of_below zk.drew,aV.o⟩ ?_
           simp only[zu,zi,ze,zx,zy,zv,zw]
           iterate 5
            refine Go.FreshH.rdw (λw' m=>by have Z:=aU.o w' m.1;obtain⟨aq,ar,au,av,aw,ax,ay,az,aO,aP⟩:=Z.d8;obtain⟨aq,ar,au,av,aw,ax,ay,az⟩:=(aW.o w' m.1).eight;go_simp;try rfl) ?_
           refine Go.FreshH.Jc rfl rfl (λw' E=>?_) ?_
           ·have m:=E.world;clear E;go_simp;have CB:=(show Cl 94 #[.agg #[.bool ab.t.s,.slice ab.t.a ab.t.n ab.t.c,.bool ab.l.s,.slice ab.l.a ab.l.n ab.l.c,.int .u16 d.x,.int .u16 d.y,.int .u16 d.z,.int .u16 d.t],.agg #[.bool e.1.c.t.s,.slice e.1.c.t.a e.1.c.t.n e.1.c.t.c,.bool e.1.c.l.s,.slice e.1.c.l.a e.1.c.l.n e.1.c.l.c,.int .u16 e.1.m.x,.int .u16 e.1.m.y,.int .u16 e.1.m.z,.int .u16 e.1.m.t]] w' _ from rby_n ⟨ab,d⟩ e.1 w' bs.o co.o bX.o);with_reducible refine CB.mono ?_
            rintro e2 aE ⟨rfl,g⟩;exact⟨_,rfl,rfl,GX.of_below g m.2 λp=>p.below g p.lt⟩
           rintro _ rfl
           conv=>arg 10;simp only[Act.put,zq0,zq1,zq2]
           iterate 3
            refine Go.FreshH.rd0 ?_
           refine Go.FreshH.Jc rfl rfl (λw' E=>?_) ?_
           ·have m:=E.world;clear E;obtain⟨v0,v1,v2,v3,v4,v5,v6,v7,Z⟩:=m.2;obtain⟨aq,ar,au,av,aw,ax,ay,az,aO,aP⟩:=Z.d8;go_simp;have hN:Bxs (Xr w' r (.bool false) (.slice none 0 0) (.bool false) (.slice none 0 0) (.int .u16 0) (.int .u16 0) (.int .u16 0) (.int .u16 0)) r 37 zTv:=J9 Z ..;exact⟨hN,jcu ..,λ_=>⟨_,_,_,_,_,_,_,_,J9 Z ..⟩,λ_=>hN⟩
           rintro _ rfl
           conv=>arg 10;simp only[Act.put,zq0,zq1,zq2]
           refine Go.FreshH.Jn (λw6 a6 hF=>?_);have H:=qh<|show Bxs w6 r 37 zTv from hF 9;have Y:=qh<|show Bt W0 w6 from⟨Y.o.b.trans (a6.1.below aQ.o Y.o.b.size)⟩;clear hF a6 aV aU aW bv bi;go_wp2;go_roundw
           case rel =>
            refine⟨s+1,rfl,L.o,λi f y hf=>?_,Y.o.b,Or.inl ⟨rfl,H.o⟩⟩;by_cases dA:i<s
            ·exact a0.o i f dA hf
            ·obtain rfl:i=s:=Zo;rw[ag.o] at hf;obtain rfl:=Option.some.inj hf;exact aL.o
           case measure=>simp[intOf,okN];have:=L.o;omega
         ·have bG:¬((s:Int)<(M:Int)):=Zo;have dB:s=M:=Zh HJ
          have dm:=qh (show ∀ l∈ds,¬l.1.1.stands d from λl hd=>by
           obtain⟨i,y⟩:=List.mem_iff_getElem?.1 hd
           exact a0.o i l (by have:=(List.getElem?_eq_some_iff.1 y).1;rw[aA.o] at this;omega) y)
          subst dB;clear I;have HY:=qh<|HY.o.below Y.o.b;have dj:=qh h.o.size;obtain⟨cW,cX,cY,cZ,c3,c5,c6,c7⟩:=ac.o.c8
          go_upto_region 30 with (fail)
          clear cW cX cY cZ c3 c5 c6 c7;obtain⟨dT,hU⟩:=gn (wr.alloc (.cells (cTv ab d).toArray 37));have aN:=bq hU (zk.alloc zj _);have aM:=qh (show EP dT ai.heap.size ⟨some ⟨wr.heap.size,0,none⟩,1,1⟩ [(d,t)] by rw[hU];exact jlj (V:=wr) HY.o dj.o bs.o cz.o);rw[<- hU];obtain⟨AO,cA⟩:=gn wr.heap.size;rw[<- cA] at aM ⊢;have K:=qh<|K.o.below aN;have u:=qh<|u.o.below aN;have j:=qh<|j.o.of_block (aN.block aI j.o.lt);have B:=qh (show ∀ i q,V.os[i]?=some q->EP _ ai.heap.size (bB i) q from λi q y=>(B.o i q y).below aN);have h:=qk h aN;have CA:=qh<|show Cl 95 #[.slice ra rn rc,.slice (some ⟨AO,0,none⟩) 1 1] dT _ from XL ⟨ra,rn,rc⟩ ⟨some ⟨AO,0,none⟩,1,1⟩ V.r [(d,t)] dT u.o.k.any aM.o.k.any (λP D=>(aJ.o.2.1 P D).up (Zh W)) (λP D=>by rw[List.mem_singleton.1 D];exact br.o.up (Zh W)) (by have:=dr.o;have:=aX.o.2.1;have:=aY.o;show rn<=_;omega) (by show 1<=_;omega);clear hU aN cA;go_wp2_with fail
          with_reducible refine CA.o.mono ?_
          rintro e w5 ⟨⟨b8,ca,b9⟩,he,cN,g⟩;obtain rfl:e=.returned (.slice b8 ca b9):=he;have bV:=qh<|cN.mono h.o.size;have aM:=qh<|aM.o.below g;have K:=qh<|K.o.below g;have u:=qh<|u.o.below g;have j:=qh<|j.o.of_block (g.block aI j.o.lt);have B:=qh (show ∀ i q,V.os[i]?=some q->EP _ ai.heap.size (bB i) q from λi q y=>(B.o i q y).below g);have h:=qk h g;have aT:=qh<|show Cl 96 #[.slice xa Q xc,.slice (some ⟨AO,0,none⟩) 1 1] w5 _ from Kt ⟨xa,Q,xc⟩ ⟨some ⟨AO,0,none⟩,1,1⟩ V.p [(d,t)] w5 K.o.k.any aM.o.k.any aM.o.canon (λP D=>(aJ.o.1 P D).up (Zh W)) (λP D=>by rw[List.mem_singleton.1 D];exact br.o.up (Zh W)) (by have:=a5.o;have:=aX.o.1;have:=aY.o;show Q<=_;omega) (by show 1<=_;omega) (by show 1<=_;omega);clear cN g CA;go_wp2_with fail
          with_reducible refine aT.o.mono ?_
          rintro e w6 ⟨⟨aF,aH,aG⟩,he,a8,g⟩;obtain rfl:e=.returned (.slice aF aH aG):=he;have a4:=qh<|a8.mono h.o.size;have bV:=qh<|bV.o.below g;have K:=qh<|K.o.below g;have u:=qh<|u.o.below g;have j:=qh<|j.o.of_block (g.block aI j.o.lt);have B:=qh (show ∀ i q,V.os[i]?=some q->EP _ ai.heap.size (bB i) q from λi q y=>(B.o i q y).below g);have h:=qk h g;have a3:=qh<|be.o.step V (VY V (d,t)) bj.o K.o.canon u.o.canon cw.o a4.o.small (Step.rest bP.o dm.o);have aB:=qh<|show RDI ai aI s aC (.slice b8 ca b9) (.slice aF aH aG) w6 (VY V (d,t)) from⟨⟨⟨aF,aH,aG⟩,⟨b8,ca,b9⟩,bB,rfl,rfl,a4.o,bV.o,j.o,B.o⟩,a3.o.1,bn.o,h.o⟩;clear a8 g aT;go_wp2;go_roundw
          case rel=>exact⟨_,aB.o⟩
          case measure=>exact Nat.lt_of_le_of_lt (least_le (μ:=μ) aB.o) (cu.o▸a3.o.2)
        ·have ag:=qh an;have aL:=qh ae;have H:=qh aD;have HU:=qh hu
         have I:s<M:=by have:=(List.getElem?_eq_some_iff.1 an).1;rw[aA.o] at this;exact this
         have L:=qh I;have b3:(s:Int)<(M:Int):=Zo;have eb:¬((s:Int)=(M:Int)):=Zo;clear an ae aD hu I;obtain⟨⟨⟨T,N,U⟩,bL⟩,C⟩:∃ q,qs[s]?=some q:=⟨_,List.getElem?_eq_getElem (by rw[<- bm.o];exact L.o)⟩;obtain⟨d2,a7,dz,S,g2,R⟩:=bf.o s _ C;obtain rfl:l=d2:=Option.some.inj (ag.o.symm.trans a7);obtain rfl:l.2=bL:=dz;have J:=HQ.o _ (List.mem_of_getElem? C);obtain⟨pb,po,rfl,am⟩:=((bW.o.below KV.o).below h.o).ex (λe=>by rw[List.map_eq_nil_iff] at e;rw[e] at C;simp at C);have hc:=am s ⟨T,N,U⟩ (by rw[List.getElem?_map,C];rfl);change wr.cell? ⟨pb,po+s,none⟩=some (.slice T N U) at hc;have cl:=qh hc;have bk:=qh J;have bM:=qh S;have de:=qh g2;have cm:=qh<|show l.1.1.Small from J.small _ R.1;have bg:=qh<|show l.1.2≠0 from J.canon.non _ R.1;have a9:=qh<|show LQ l.1.2 kd from S _ R.1;have bS:=qh<|show LQ (t/l.1.2) (k+kd) from lq_by (t:=(d,t)) (d:=l.1) bg.o br.o a9.o;have bt:=qh<|show t/l.1.2≠0 from jec (t:=(d,t)) (d:=l.1) cz.o bg.o;have bY:=qh<|show(d.quo l.1.1).Small from Mo.jeb bs.o;have cq:=qh<|show KP wr ⟨T,N,U⟩ l.2 from(J.below KV.o).below h.o;have cy:=qh (show N<=1000000 by have p:N=l.2.length:=J.len;have h2:l.2.length<=nd:=g2;have:=aZ.o;omega);have ct:=qh<|show LF F 900000 from HU.o.k.len bS.o (Zh W);have BX:=qh<|show Bt wr wr from⟨zk⟩;have dt:=qh h.o.size;clear C a7 S g2 R J am hc;by_cases bJ:∀ P∈l.2,(P.1.mul (d.quo l.1.1)).Small
         ·have bo:=qh bJ;clear bJ
          go_upto_region 32 with (fail)
          go_upto_region 32 with (fail)
          refine FS.Jd 10 [] (FS.JI [(5,FS.Sp.made (λx:PV=>Value.tuple #[x.v,.int .i64 0]) (λx w'=>EP w' wr.heap.size x (Ql l.2 [((d.quo l.1.1),(t/l.1.2))])) (λ_ _=>False))])
           (λw'=>Bl wr w') Zk Zk Zk
           (FS.Jb (FS.Sp.Qf _ jcs (λ_ _ _ p hs=>p.rows hs) Zk (FS.JG Zk)) (FS.Jh)) (λ_ _ p g=>p.trans (g.mono p.size)) (zk.drew) ?_
          simp only[zu,zi,ze,zx,zy,zv,zw]
          iterate 5
           refine FS.rdw (λw' m=>by have cM:=ZO cl.o m;obtain⟨aq,ar,au,av,aw,ax,ay,az,aO,aP⟩:=(H.o.bl m).d8;go_simp;try rfl) ?_
          refine FS.Jc rfl rfl rfl (λw' E=>?_) ?_
          ·have m:=E.world;refine FS.Jm (FS.PM (λx:PV=>Value.tuple #[x.v,.int .i64 0]) (λx w'=>EP w' wr.heap.size x (Ql l.2 [((d.quo l.1.1),(t/l.1.2))])) (λ_ _=>False) w'.heap.size) ?_ (λ_ _ p=>p.post (PV.injE 0));go_simp;have CT:=(show Cl 97 #[.slice T N U,.agg #[.bool F.t.s,.slice F.t.a F.t.n F.t.c,.bool F.l.s,.slice F.l.a F.l.n F.l.c,.int .u16 (d.quo l.1.1).x,.int .u16 (d.quo l.1.1).y,.int .u16 (d.quo l.1.1).z,.int .u16 (d.quo l.1.1).t]] w' _ from jle ⟨T,N,U⟩ l.2 F (d.quo l.1.1) (t/l.1.2) w' (cq.o.below m) (λP D=>(bM.o P D).up (Zh W)) cy.o (HU.o.below m).k ct.o bY.o bt.o bo.o);refine CT.mono ?_;rintro e aE ⟨za,rfl,ho,g⟩;exact⟨_,rfl,⟨za,rfl,ho.mono m.size,λ_ p=>False.elim p⟩,g⟩
          rintro _ ⟨y5,rfl⟩
          conv=>arg 10;simp only[Act.put,zq0,zq1,zq2]
          iterate 4
           refine FS.rd0 ?_
          refine FS.Jn (λO g hF=>?_);have cU:=qh<|show EP O wr.heap.size y5 (Ql l.2 [((d.quo l.1.1),(t/l.1.2))]) from(FS.JQ (val:=(λx:PV=>Value.tuple #[x.v,.int .i64 0])) (Φ:=λx w'=>EP w' wr.heap.size x (Ql l.2 [((d.quo l.1.1),(t/l.1.2))])) (PV.injE 0) (hF.all 5));clear hF;have BX:=qh<|BX.o.below g;have HU:=qh<|HU.o.below g;have H:=qh<|H.o.bl g;have h:=qk h g;clear g;have K:=qh<|K.o.below BX.o.b;have u:=qh<|u.o.below BX.o.b;have j:=qh<|j.o.of_block (BX.o.b.block aI j.o.lt);have B:=qh (show ∀ i q,V.os[i]?=some q->EP _ ai.heap.size (bB i) q from λi q y=>(B.o i q y).below BX.o.b);have ah:=qh<|cU.o.mono dt.o;obtain⟨bA,hO⟩:∃ bA,V.os[s]?=some bA:=⟨_,List.getElem?_eq_getElem (by rw[bn.o];exact L.o)⟩;have HO:=qh hO;obtain⟨⟨za,zn,zc⟩,bK⟩:∃ z,z=bB s:=⟨_,rfl⟩;have d9:=qh bK;have dc:=qh (show O.cell? ⟨aI,s,none⟩=some (.slice za zn zc) by have p:=j.o.cell L.o;rw[<- bK] at p;exact p);have cx:=qh (show EP O ai.heap.size ⟨za,zn,zc⟩ bA by rw[bK];exact B.o s bA hO);have dL:zn=bA.length:=cx.o.k.len;have dF:=aX.o.2.2 bA (List.mem_of_getElem? hO);have cP:=qh (show ∀ P∈bA,LQ P.2 400000 from λP D=>(aJ.o.2.2 bA (List.mem_of_getElem? hO) P D).up (Zh W));have cQ:=qh (show ∀ P∈[(d.quo l.1.1,t/l.1.2)],LQ P.2 400000 from λP D=>by rw[List.mem_singleton.1 D];exact bS.o.up (Zh W));have dv:=qh (show zn<=400000000 by have:=aY.o;omega);have BX:=qh<|show Bt O O from⟨zk⟩;have cR:=qh h.o.size;have ea:s<M:=L.o
          clear hO bK dL dF
          go_upto_region 35 with (fail)
          go_upto_region 35 with (fail)
          refine FS.Jd 9 [] (FS.JI [(7,FS.Sp.made (λb:Nat=>Value.slice (some ⟨b,0,none⟩) 1 1) (λb w'=>Bxs w' b 37 [.bool F.t.s,.slice F.t.a F.t.n F.t.c,.bool F.l.s,.slice F.l.a F.l.n F.l.c,.int .u16 (d.quo l.1.1).x,.int .u16 (d.quo l.1.1).y,.int .u16 (d.quo l.1.1).z,.int .u16 (d.quo l.1.1).t]) (λ_ _=>False)),(8,FS.Sp.made (λx:PV=>x.v) (λx w'=>EP w' O.heap.size x (Qv bA [((d.quo l.1.1),(t/l.1.2))])) (λ_ _=>False))])
           (λw'=>Bl O w') Zk Zk Zk
           (FS.Jb (FS.Sp.Qf _ (λed=>ed==37) (λ_ _ _ p hs=>jct p hs rfl) Zk (FS.JG Zk)) (FS.Jb (FS.Sp.Qf _ jcs (λ_ _ _ p hs=>p.rows hs) Zk (FS.JG Zk)) (FS.Jh))) (λ_ _ p g=>p.trans (g.mono p.size)) (zk.drew) ?_
          simp only[zu,zi,ze,zx,zy,zv,zw]
          iterate 7
           refine FS.rdw (λw' m=>by have cM:=ZO dc.o m;obtain⟨aq,ar,au,av,aw,ax,ay,az,aO,aP⟩:=(H.o.bl m).d8;go_simp;try rfl) ?_
          refine FS.Jc rfl rfl rfl (λw' E=>?_) ?_
          ·have m:=E.world;refine FS.Jm (FS.PM (λb:Nat=>Value.slice (some ⟨b,0,none⟩) 1 1) (λb w'=>Bxs w' b 37 [.bool F.t.s,.slice F.t.a F.t.n F.t.c,.bool F.l.s,.slice F.l.a F.l.n F.l.c,.int .u16 (d.quo l.1.1).x,.int .u16 (d.quo l.1.1).y,.int .u16 (d.quo l.1.1).z,.int .u16 (d.quo l.1.1).t]) (λ_ _=>False) w'.heap.size) ?_ (λ_ _ p=>p.post (λ_ _ p=>by cases p;rfl));go_simp;exact⟨⟨w'.heap.size,rfl,Bxs.new w' _ _,λ_ p=>False.elim p⟩,zk.alloc zj _⟩
          rintro _ ⟨y7,rfl⟩
          conv=>arg 10;simp only[Act.put,zq0,zq1,zq2]
          refine FS.Jc rfl rfl rfl (λw' E=>?_) ?_
          ·have m:=E.world;refine FS.Jm (FS.PM (λx:PV=>x.v) (λx w'=>EP w' O.heap.size x (Qv bA [((d.quo l.1.1),(t/l.1.2))])) (λ_ _=>False) w'.heap.size) ?_ (λ_ _ p=>p.post (λ_ _=>PV.inj));go_simp;have f7:=FS.JQ (val:=(λb:Nat=>Value.slice (some ⟨b,0,none⟩) 1 1)) (Φ:=λb w'=>Bxs w' b 37 [.bool F.t.s,.slice F.t.a F.t.n F.t.c,.bool F.l.s,.slice F.l.a F.l.n F.l.c,.int .u16 (d.quo l.1.1).x,.int .u16 (d.quo l.1.1).y,.int .u16 (d.quo l.1.1).z,.int .u16 (d.quo l.1.1).t]) (λ_ _ p=>by cases p;rfl) (E.fact 7 Zk);have CT:=(show Cl 95 #[.slice za zn zc,.slice (some ⟨y7,0,none⟩) 1 1] w' _ from XL ⟨za,zn,zc⟩ ⟨some ⟨y7,0,none⟩,1,1⟩ bA [((d.quo l.1.1),(t/l.1.2))] w' (cx.o.below m).k.any (jli f7 (HU.o.below m).k bY.o bt.o).any cP.o cQ.o dv.o (by show 1<=_;omega));refine CT.mono ?_;rintro e aE ⟨za,rfl,ho,g⟩;exact⟨_,rfl,⟨za,rfl,ho.mono m.size,λ_ p=>False.elim p⟩,g⟩
          rintro _ ⟨y8,rfl⟩
          conv=>arg 10;simp only[Act.put,zq0,zq1,zq2]
          refine FS.Jn (λcb g hF=>?_);have cV:=qh<|show EP cb O.heap.size y8 (Qv bA [((d.quo l.1.1),(t/l.1.2))]) from(FS.JQ (val:=(λx:PV=>x.v)) (Φ:=λx w'=>EP w' O.heap.size x (Qv bA [((d.quo l.1.1),(t/l.1.2))])) (λ_ _=>PV.inj) (hF.all 8));clear hF;have BX:=qh<|BX.o.below g;have HU:=qh<|HU.o.below g;have ah:=qh<|ah.o.below g;have H:=qh<|H.o.bl g;have h:=qk h g;clear g;have K:=qh<|K.o.below BX.o.b;have u:=qh<|u.o.below BX.o.b;have j:=qh<|j.o.of_block (BX.o.b.block aI j.o.lt);have B:=qh (show ∀ i q,V.os[i]?=some q->EP _ ai.heap.size (bB i) q from λi q y=>(B.o i q y).below BX.o.b);have bU:=qh<|cV.o.mono cR.o;have dw:=j.o.cell L.o;have dx:=j.o.frozen s;have dy:=j.o.lt;clear BX
          go_upto_region 36 with (fail)
          obtain⟨W9,ad⟩:=gn (cb.setCell ⟨aI,s,none⟩ (.slice y8.a y8.n y8.c));rw[<- ad];have a1:=qh<|row_rows j.o s (.slice y8.a y8.n y8.c);have K:=qh (show EP W9 ai.heap.size ⟨xa,Q,xc⟩ V.p by rw[ad];exact K.o.rows a1.o);have u:=qh (show EP W9 ai.heap.size ⟨ra,rn,rc⟩ V.r by rw[ad];exact u.o.rows a1.o);have ah:=qh (show EP W9 ai.heap.size y5 (Ql l.2 [(d.quo l.1.1,t/l.1.2)]) by rw[ad];exact ah.o.rows a1.o);have bU:=qh (show EP W9 ai.heap.size y8 (Qv bA [(d.quo l.1.1,t/l.1.2)]) by rw[ad];exact bU.o.rows a1.o);have j:=qh (show W9.rowIs aI 23 M (λi=>((λi=>if i=s then y8 else bB i) i).v) by rw[ad];exact(j.o.set s _).congr λi _=>by by_cases p:i=s <;> simp[p])
          have B:=qh (show ∀ (i:Nat) (q:List Tm),(V.os.modify s λq=>Qv q [byT (d,t) l.1])[i]?=some q->EP W9 ai.heap.size ((λi=>if i=s then y8 else bB i) i) q from λi q y=>by
           rw[List.getElem?_modify] at y;by_cases p:i=s
           ·subst p;rw[HO.o] at y;simp at y;rw[<- y];simp only[if_true];exact bU.o
           ·simp only[if_neg p]
            have dC:¬s=i:=λe=>p e.symm
            simp[dC] at y;rw[ad]
            exact(B.o i q y).rows a1.o)
          have h:=qh<|bq ad (h.o.setCell di.o _);have bI:=off_pb (D:=l.2) (nd:=nd) bk.o.canon (u:=(d.quo l.1.1,t/l.1.2)) bt.o bM.o de.o bS.o ah.o.small;have aT:=qh<|show Cl 96 #[.slice xa Q xc,.slice y5.a y5.n y5.c] W9 _ from Kt ⟨xa,Q,xc⟩ y5 V.p (Ql l.2 [(d.quo l.1.1,t/l.1.2)]) W9 K.o.k.any ah.o.k.any ah.o.canon (λP D=>(aJ.o.1 P D).up (Zh W)) (λP D=>(bI.lq P D).up (Zh W)) (by have:=a5.o;have:=aX.o.1;have:=aY.o;show Q<=_;omega) (by have p:=ah.o.k.len;have:=bI.len;have:=aZ.o;omega) (by have:=bI.len;have:=aZ.o;omega);clear ad bI dw dx dy;go_wp2_with fail
          with_reducible refine aT.o.mono ?_
          rintro e w9 ⟨⟨aF,aH,aG⟩,he,a8,g⟩;obtain rfl:e=.returned (.slice aF aH aG):=he;have a4:=qh<|a8.mono h.o.size;have u:=qh<|u.o.below g;have j:=qh<|j.o.of_block (g.block aI j.o.lt);have B:=qh (show ∀ (i:Nat) (q:List Tm),(V.os.modify s λq=>Qv q [byT (d,t) l.1])[i]?=some q->EP w9 ai.heap.size ((λi=>if i=s then y8 else bB i) i) q from λi q y=>(B.o i q y).below g);have h:=qk h g;have a3:=qh<|be.o.step V (hitS V (d,t) s l) bj.o K.o.canon u.o.canon cw.o a4.o.small (Step.hit bP.o ⟨ag.o,aL.o,λi f y hf=>a0.o i f y hf⟩);have aB:=qh<|show RDI ai aI M aC (.slice ra rn rc) (.slice aF aH aG) w9 (hitS V (d,t) s l) from⟨⟨⟨aF,aH,aG⟩,⟨ra,rn,rc⟩,_,rfl,rfl,a4.o,u.o,j.o,B.o⟩,a3.o.1,by show(V.os.modify s _).length=M;rw[List.length_modify];exact bn.o,h.o⟩;clear a8 g aT;go_wp2;go_roundw
          case rel=>exact⟨_,aB.o⟩
          case measure=>exact Nat.lt_of_le_of_lt (least_le (μ:=μ) aB.o) (cu.o▸a3.o.2)
         ·have bo:=qh bJ;clear bJ
          go_upto_region 32 with (fail)
          go_upto_region 32 with (fail)
          refine FS.Jd 10 [] (FS.JI [(5,FS.Sp.know (.tuple #[.slice none 0 0,.int .i64 3]))])
           (λw'=>Bl wr w') Zk Zk Zk
           (FS.Jb (FS.Sp.Jk _ _) (FS.Jh)) (λ_ _ p g=>p.trans (g.mono p.size)) (zk.drew) ?_
          simp only[zu,zi,ze,zx,zy,zv,zw]
          iterate 5
           refine FS.rdw (λw' m=>by have cM:=ZO cl.o m;obtain⟨aq,ar,au,av,aw,ax,ay,az,aO,aP⟩:=(H.o.bl m).d8;go_simp;try rfl) ?_
          refine FS.Jc rfl rfl rfl (λw' E=>?_) ?_
          ·have m:=E.world;refine FS.Jm (FS.PK (.tuple #[.slice none 0 0,.int .i64 3])) ?_ (λ_ _ p=>p.post);go_simp;have CT:=(show Cl 97 #[.slice T N U,.agg #[.bool F.t.s,.slice F.t.a F.t.n F.t.c,.bool F.l.s,.slice F.l.a F.l.n F.l.c,.int .u16 (d.quo l.1.1).x,.int .u16 (d.quo l.1.1).y,.int .u16 (d.quo l.1.1).z,.int .u16 (d.quo l.1.1).t]] w' _ from jlf ⟨T,N,U⟩ l.2 F (d.quo l.1.1) (t/l.1.2) w' (cq.o.below m) (λP D=>(bM.o P D).up (Zh W)) cy.o (HU.o.below m).k ct.o bY.o bt.o bo.o);refine CT.mono ?_;rintro e aE ⟨rfl,g⟩;exact⟨_,rfl,rfl,g⟩
          rintro _ rfl
          conv=>arg 10;simp only[Act.put,zq0,zq1,zq2]
          iterate 4
           refine FS.rd0 ?_
          refine FS.Jn (λO g hF=>?_);clear hF;have h:=qk h g;clear g;go_wp2;go_ret3;obtain⟨t0,dG⟩:=Classical.not_forall.1 bo.o;obtain⟨dJ,dK⟩:=Classical.not_imp.1 dG;exact Or.inr ⟨V,(d,t),s,l,rfl,bj.o,bP.o,⟨ag.o,aL.o,λi f y hf=>a0.o i f y hf⟩,⟨t0,dJ,_,List.mem_singleton.2 rfl,dK⟩,KV.o.trans (h.o.mono KV.o.size)⟩
end Pol
namespace Book
open Go.RowKit Go.Sort Go.FreshH Limb Pol
variable {w w' w0:World} {b base hi hi' l lo lo' m q:Nat} {x y:PV} {ts:List TV}
abbrev book0:Array Value:=#[.int .i64 0,.slice none 0 0,.slice none 0 0,.slice none 0 0,.slice none 0 0,.slice none 0 0,.slice none 0 0,.slice none 0 0,.slice none 0 0,.slice none 0 0,.slice none 0 0,.slice none 0 0,.slice none 0 0]
theorem BkS.new (f:World):BkS (f.alloc (.cells book0 59)) f.heap.size f.heap.size 0 [] []:=by
 refine⟨⟨.slice none 0 0,.slice none 0 0,⟨?_,World.ownsRow_nil _ _ _ _,World.ownsRow_nil _ _ _ _,(λd=>by cases d),(λd=>by cases d),λg d=>by cases d⟩,λ_=>rfl,λ_=>rfl⟩,zj,by rw[World.size_alloc];exact Nat.le_succ _⟩
 refine World.rowIs_alloc f _ 59 _ λi hi=>?_
 have:i=0\/i=1\/i=2\/i=3\/i=4\/i=5\/i=6\/i=7\/i=8\/i=9\/i=10\/i=11\/i=12:=by
  have:i<13:=hi;omega
 rcases this with rfl | rfl | rfl | rfl | rfl | rfl | rfl | rfl | rfl | rfl | rfl | rfl | rfl <;> rfl
theorem RT.QA {a:Option Addr} (r:RT w a ts) (j:Qz base w w') (g:∀ p,a=some p->p.block<base):RT w' a ts:=by
 refine⟨λk=>?_⟩;obtain⟨b,off,d,f⟩:=r.ex k;exact⟨b,off,d,λi s hi o v h=>(World.cell?_of_block (a:=⟨b,off+i*8+o,none⟩) (j.bel.block b (g _ d))).trans (f i s hi o v h)⟩
theorem HG.QA {d:Nat->Prop} {j k:List HL} (o:HG w lo d j k) (h:Qz base w w') (f:∀ b,d b->b<base):HG w' lo d j k:=o.keep λb g=>h.bel.block b (f b g)
structure PG (w:World) (x:PV) (q:Nat) (ts:List TV) (lo hi:Nat) (S:Nat->Prop):Prop where
 rt:RT w x.a ts
 len:ts.length=x.n
 hg:HG w lo S (J6 ts q) [⟨x.a,x.n,x.c,q+2*x.n⟩]
 at_:∀ b,S b->b<hi
theorem PG.far {h:Nat->Prop} (g:PG w x q ts lo hi h):∀ d,x.a=some d->d.block<hi:=λd f=>g.at_ _ (g.hg.at_ ⟨x.a,x.n,x.c,q+2*x.n⟩ (by simp) d f)
theorem PG.QA {k:Nat->Prop} (d:PG w x q ts lo hi k) (g:Qz base w w') (f:hi<=base):PG w' x q ts lo hi k :=
 ⟨RT.QA d.rt g λo j=>Nat.lt_of_lt_of_le (d.far o j) f,d.len,d.hg.QA g λb h=>Nat.lt_of_lt_of_le (d.at_ b h) f,d.at_⟩
theorem PG.below {j:Nat->Prop} (d:PG w x q ts lo hi j) (f:Bl w w') (h:hi<=w.heap.size):PG w' x q ts lo hi j :=
 ⟨d.rt.below f,d.len,d.hg.keep λb g=>f.block b (Nat.lt_of_lt_of_le (d.at_ b g) h),d.at_⟩
structure BG (w:World) (b base q lo hi l m:Nat):Prop where
 ex:∃ L M,L.length=l/\M.length=m/\BkS w b base q L M/\HG w lo (Bw lo hi) L M
 lq:l+m=q
 h1:lo<=hi
 h2:hi<=base
def BGs (b base q lo hi l m:Nat) (w:World) (e:Ending) (w':World):Prop:=(∃ r,e=.returned r)/\BG w' b base q lo hi l m/\Qz base w w'
theorem BG.new (d:World) (f:lo<=d.heap.size):BG (d.alloc (.cells book0 59)) d.heap.size d.heap.size 0 lo lo 0 0 :=
 ⟨⟨[],[],rfl,rfl,BkS.new d,HG.nil _ _ _⟩,rfl,zj,f⟩
theorem BG.step {q':Nat} {j k f h:List HL} {e:Ending} (t:HG w lo (Bw lo hi) j k) (g:HG w lo' (Bw lo' hi') f h) (lq:j.length+k.length=q) (r:lo<=hi) (s:hi<=lo') (v:lo'<=hi') (o:hi'<=base) (z:f.length+h.length+q=q') (p:VW b base q' (j++f) (k++h) w e w') :
  BGs b base q' lo hi' (j.length+f.length) (k.length+h.length) w e w' :=
 ⟨p.1,⟨⟨j++f,k++h,List.length_append,List.length_append,p.2.1,(t.app (g.mono (zm r s)) (λb d=>⟨d.1,by have:=d.2;omega⟩) (λb d=>⟨by have:=d.1;omega,d.2⟩) (λb d u=>by have:=d.2;have:=u.1;omega)).QA p.2.2 λb d=>Nat.lt_of_lt_of_le d.2 o⟩,Zo,Zo,o⟩,p.2.2⟩
theorem BG.poly (h:BG w b base q lo hi l m) (d:PG w x q ts lo' hi' (Bw lo' hi')) (j:hi<=lo') (k:lo'<=hi') (f:hi'<=base) (t:q+2*x.n<=29990) :
  Cl 17 #[.pointer (some ⟨b,0,none⟩),x.v] w (BGs b base (q+2*x.n+1) lo hi' (l+2*x.n) (m+1) w):=by
 obtain⟨v,z,rfl,rfl,s,hg⟩:=h.ex;have p:=h.lq
 refine(s.poly x ts d.rt d.len (λu r=>Nat.lt_of_lt_of_le (d.far u r) f) Zo Zo Zo).mono λe w' o=>?_
 have g:=BG.step hg d.hg p h.h1 j k f (q':=q+2*x.n+1) (by rw[X4,d.len];simp;omega) o;rw[X4,d.len] at g;exact g
theorem BG.apart (d:BG w b base q lo hi l m) (g:0<l) (h:0<m) (o:q<=30000) :
  Cl 20 #[.pointer (some ⟨b,0,none⟩)] w λe w'=>e=.returned (.bool true)/\Below lo w w':=by
 obtain⟨p,r,rfl,rfl,j,hg⟩:=d.ex;have k:=d.lq;exact j.apartG hg g h Zo Zo (λb f=>⟨f.1,Nat.lt_of_lt_of_le f.2 d.h2⟩) (zm d.h1 d.h2)
theorem DP.pg {d:List Tm} (r:DP w lo x d) (k:∀ t∈d,LQ t.2 900000) (o:d.length<=10000) (p:q+2*d.length<=30000):∃ ts,PG w x q ts lo w.heap.size (Bw lo w.heap.size):=by
 obtain⟨ts,f,g,s,h⟩:=DP.hg r k o p;exact⟨ts,f,g,h,λb j=>j.2⟩
theorem Tw2.pg (o:Tw2 w0 w lo y x) (s:x.n<=10000) (t:q+2*x.n<=30000):∃ ts,PG w y q ts lo w.heap.size (Bw lo w.heap.size):=by
 obtain⟨ts,u,h,p,r,j⟩:=o;obtain⟨d,f,g⟩:=TwP.hg h j Zo (q:=q) Zo;exact⟨ts,d,f,g,λb k=>k.2⟩
structure GP (w:World) (x:PV) (q lo hi:Nat):Prop where
 ex:∃ ts,PG w x q ts lo hi (Bw lo hi)
 le:hi<=w.heap.size
 lh:lo<=hi
theorem GP.below (f:GP w x q lo hi) (d:Bl w w'):GP w' x q lo hi:=by
 obtain⟨ts,g⟩:=f.ex;exact⟨⟨ts,g.below d f.le⟩,zm f.le d.size,f.lh⟩
theorem GP.QA (f:GP w x q lo hi) (d:Qz base w w') (g:hi<=base):GP w' x q lo hi:=by
 obtain⟨ts,h⟩:=f.ex;exact⟨⟨ts,h.QA d g⟩,zm f.le d.bel.size,f.lh⟩
theorem DP.gp {d:List Tm} (k:DP w lo x d) (f:∀ o∈d,LQ o.2 900000) (g:d.length<=10000) (j:lo<=w.heap.size) (h:q+2*d.length<=30000):GP w x q lo w.heap.size:=⟨DP.pg k f g h,zj,j⟩
theorem Tw2.gp (h:Tw2 w0 w lo y x) (d:x.n<=10000) (g:lo<=w.heap.size) (f:q+2*x.n<=30000):GP w y q lo w.heap.size:=⟨Tw2.pg h d f,zj,g⟩
theorem BG.polyP (k:BG w b base q lo hi l m) (j:GP w x q lo' hi') (f:hi<=lo') (g:hi'<=base) (h:q+2*x.n<=29990) :
  Cl 17 #[.pointer (some ⟨b,0,none⟩),x.v] w (BGs b base (q+2*x.n+1) lo hi' (l+2*x.n) (m+1) w):=by
 obtain⟨ts,d⟩:=j.ex;exact k.poly d f j.lh g h
theorem BG.apartA (f:BG w b base q lo hi l m) (h:0<m) (t:q<=30000) :
  Cl 20 #[.pointer (some ⟨b,0,none⟩)] w λe w'=>e=.returned (.bool true)/\Below lo w w':=by
 by_cases p:0<l
 ·exact f.apart p h t
 ·classical
  obtain⟨z,v,rfl,rfl,u,hg⟩:=f.ex;have B:=f.lq;obtain rfl:z=[]:=List.length_eq_zero_iff.1 Zo
  have g:∀ x:HL,∃ o,x∈v->Qe w lo x.a x.n x.c o:=λx=>by
   by_cases d:x∈v
   ·obtain⟨o,r⟩:=(hg.row x d).1;exact⟨o,λ_=>r⟩
   ·exact⟨λ_=>.bool true,λf=>absurd f d⟩
  obtain⟨k,g⟩:=Classical.axiomOfChoice g
  exact u.apart0 h Zo (λx d=>hg.nq x (List.mem_append_right _ d)) k g (λx d=>(hg.row x d).2) (λx d C s=>by
   have j:=hg.at_ x (List.mem_append_right _ d) C s
   exact⟨j.1,Nat.lt_of_lt_of_le j.2 f.h2⟩) (zm f.h1 f.h2) hg.am
end Book
end Go.Proofs.YthacfgmdihcffaaGreatDoor
