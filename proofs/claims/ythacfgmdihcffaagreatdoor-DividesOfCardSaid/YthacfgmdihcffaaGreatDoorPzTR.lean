/-
  The walks of Content, by, Prim, Monic.
-/
import Derived.Test.YthacfgmdihcffaaGreatDoorPzTQ
import Derived.OwnWalk
set_option linter.unusedSimpArgs false
set_option linter.unusedVariables false
set_option maxHeartbeats 16000000
set_option maxRecDepth 100000
open Go.Proofs.Tryz
namespace Go.Proofs.YthacfgmdihcffaaGreatDoor
namespace Pol
open Go.RowKit Go.Sort Limb
variable {w w' w0:World} {b c d e e1 e2 g i j k1 k2 kl lo n n1 n2:Nat} {A P Q:List Tm} {v:Value} {x:PV}
theorem moS {a:Mo} (f:a.Small):Mono.Small (λi=>((a.at i:Nat):Int)):=λi _=>⟨Int.natCast_nonneg _,by have:=jf4 f i;show((a.at i:Nat):Int)<=65535;omega⟩
theorem mono_div (a b:Mo) (o:World) (m:a.Small) (h:b.Small) (p:b.stands a):Cl 144 #[Mo.v a,Mo.v b] o λe w'=>e=.returned (.tuple #[Mo.v (a.quo b),.bool true])/\Bl o w':=by
 obtain⟨q,r,s,t⟩:=p
 have f:Mono.Yh (λi=>((a.at i:Nat):Int)) (λi=>((b.at i:Nat):Int))=true:=decide_eq_true (by
  show(b.x:Int)<=a.x/\(b.y:Int)<=a.y/\(b.z:Int)<=a.z/\(b.t:Int)<=a.t
  omega)
 refine(Mono.jig (λi=>((a.at i:Nat):Int)) (λi=>((b.at i:Nat):Int)) o (moS m) (moS h)).mono ?_;rintro e w' ⟨rfl,h⟩;refine⟨?_,h⟩;have k:(a.x:Int)-b.x=((a.x-b.x:Nat):Int):=Zo;have e1:(a.y:Int)-b.y=((a.y-b.y:Nat):Int):=Zo;have e2:(a.z:Int)-b.z=((a.z-b.z:Nat):Int):=Zo;have l:(a.t:Int)-b.t=((a.t-b.t:Nat):Int):=Zo;show Ending.returned (.tuple #[.agg #[.int .u16 (Mono.Z6 _ _ 0),.int .u16 (Mono.Z6 _ _ 1),.int .u16 (Mono.Z6 _ _ 2),.int .u16 (Mono.Z6 _ _ 3)],.bool (Mono.Yh _ _)])=.returned (.tuple #[.agg #[.int .u16 ((a.x-b.x:Nat):Int),.int .u16 ((a.y-b.y:Nat):Int),.int .u16 ((a.z-b.z:Nat):Int),.int .u16 ((a.t-b.t:Nat):Int)],.bool true]);rw[f,Mono.XJ f,Mono.XJ f,Mono.XJ f,Mono.XJ f,<- k,<- e1,<- e2,<- l];rfl
theorem jk8 (a b:Mo) (l:World) (k:a.Small) (f:b.Small) (m:¬b.stands a):Cl 144 #[Mo.v a,Mo.v b] l λe w'=>e=.returned (.tuple #[.agg #[.int .u16 0,.int .u16 0,.int .u16 0,.int .u16 0],.bool false])/\Bl l w':=by
 have h:Mono.Yh (λi=>((a.at i:Nat):Int)) (λi=>((b.at i:Nat):Int))=false:=zo (by
  show ¬((b.x:Int)<=a.x/\(b.y:Int)<=a.y/\(b.z:Int)<=a.z/\(b.t:Int)<=a.t);intro o
  exact m ⟨Zo,Zo,Zo,Zo⟩)
 refine(Mono.jig (λi=>((a.at i:Nat):Int)) (λi=>((b.at i:Nat):Int)) l (moS k) (moS f)).mono ?_;rintro e w' ⟨rfl,f⟩;refine⟨?_,f⟩;rw[h,Mono.Uy h];rfl
def dvC (y:FV) (m:Mo) (all often:PV):List Value:=[.bool y.t.s,.slice y.t.a y.t.n y.t.c,.bool y.l.s,.slice y.l.a y.l.n y.l.c,.int .u16 m.x,.int .u16 m.y,.int .u16 m.z,.int .u16 m.t,.slice all.a all.n all.c,.slice often.a often.n often.c]
theorem into_y (bd:Nat) (Z:FV) (ag:Rat) (B:Mo) (all o:PV) (C:FV) (y:Rat) (tm:Mo) (z:World) (hd:Bxs z bd 101 (dvC Z B all o)) (af:tm.Small) (ae:B.Small) (hs:B.stands tm) (hy:KF z Z ag) (ht:KF z C y) (lq:LQ ag 400000) (lt:LQ y 400000) (ad:ag≠0) (hz:y≠0) :
  Cl 87 #[.pointer (some ⟨bd,0,none⟩),.agg #[.bool C.t.s,.slice C.t.a C.t.n C.t.c,.bool C.l.s,.slice C.l.a C.l.n C.l.c,.int .u16 tm.x,.int .u16 tm.y,.int .u16 tm.z,.int .u16 tm.t]] z λe w'=>∃ m:PV,e=.returned (.tuple #[m.v,.bool true])/\DP w' z.heap.size m [byT (tm,y) (B,ag)]/\Bl z w':=by
 have h:=qh<|Below.refl z.heap.size z;have u:=qh<|show Bxs z bd 101 [.bool Z.t.s,.slice Z.t.a Z.t.n Z.t.c,.bool Z.l.s,.slice Z.l.a Z.l.n Z.l.c,.int .u16 B.x,.int .u16 B.y,.int .u16 B.z,.int .u16 B.t,.slice all.a all.n all.c,.slice o.a o.n o.c] from hd;have r:=qh af;have ai:=qh ae;have aj:=qh hs;have NY:=qh hy;have NT:=qh ht;have ab:=qh lq;have H:=qh lt;have G:=qh ad;clear hd af ae hs hy ht lq lt ad;obtain⟨m,hu⟩:=gn (tm.quo B);have HU:=qh hu;clear hu;obtain⟨t,L⟩:=gn (y/ag:Rat);have aa:=qh L;have aE:=qh (show LQ t 800000 by rw[L];exact LQ.div (G.o) (H.o.up (by decide:_<=400000)) (ab.o.up (by decide:_<=400000)) Ze);clear L;go_enter func87,ntmps87
 go_upto_region 1 with (fail)
 obtain⟨v2,hV⟩:=gn (z.alloc (.cells (cTv C tm).toArray 37));have K:=bq hV (zk.alloc zj _);have q:=qh (show Bxs v2 (z.heap.size) 37 (cTv C tm) by have s:=Bxs.new (z) 37 (cTv C tm);rw[hV];exact s);rw[<- hV];have u:=qh<|u.o.bl K;have h:=qk h K;clear hV K
 go_upto_region 1 with (fail)
 refine FS.Jd 13 [(12,11)] (FS.JI [(7,FS.Sp.know (.tuple #[.agg #[.int .u16 m.x,.int .u16 m.y,.int .u16 m.z,.int .u16 m.t],.bool true])),(11,FS.Sp.box 35 4 v2.heap.size)])
  (λw'=>Bl v2 w') Zk Zk Zk
  (FS.Jb (FS.Sp.Jk _ _) (FS.Jb (FS.Sp.XQ _ _ _ _) (FS.Jh))) (λ_ _ s k=>s.trans (k.mono s.size)) (zk.drew) ?_
 simp only[zu,zi,ze,zx,zy,zv,zw]
 iterate 7
  refine FS.rdw (λw' a=>by obtain⟨M,N,O,R,S,T,U,V,W,X⟩:=(q.o.bl a).d8;obtain⟨M,N,O,R,S,T,U,V,am,an,W,X⟩:=(u.o.bl a).d10;go_simp;try rfl) ?_
 refine FS.Jc rfl rfl rfl (λw' f=>?_) ?_
 ·have a:=f.world;refine FS.Jm (FS.PK (.tuple #[.agg #[.int .u16 m.x,.int .u16 m.y,.int .u16 m.z,.int .u16 m.t],.bool true])) ?_ (λ_ _ s=>s.post);go_simp;have F:=mono_div tm B w' r.o ai.o aj.o;rw[show(tm).quo B=m from HU.o.symm] at F;refine F.mono ?_;rintro e ao ⟨rfl,k⟩;exact⟨_,rfl,rfl,k⟩
 rintro _ rfl
 conv=>arg 10;simp only[Act.put,zq0,zq1,zq2]
 iterate 3
  refine FS.rd0 ?_
 refine FS.Jc rfl rfl rfl (λw' f=>?_) ?_
 ·have a:=f.world;refine FS.Jm (FS.PB 35 4 v2.heap.size w'.heap.size) ?_ (λ_ _ s=>s.post);go_simp;exact⟨FS.PB.new _ rfl a.size,zk.alloc zj _⟩
 rintro _ ⟨Y,rfl⟩
 conv=>arg 10;simp only[Act.put,zq0,zq1,zq2]
 refine FS.ZF rfl rfl 11 rfl rfl rfl rfl (λ_=>Iff.rfl) (λw' f=>?_) ?_
 ·have a:=f.world;have J:=FS.Yd (f.fact 11 Zk);obtain⟨c0,c1,c2,c3,I⟩:=shp4 J.1;obtain⟨m0,m1,m2,m3,mf,ml⟩:=I.d4;refine FS.ZG ?_ (ja5 a J.2 I (.int .u16 m.x) (.int .u16 m.y) (.int .u16 m.z) (.int .u16 m.t));clear f;go_simp
  try rfl
 conv=>arg 10;simp only[Act.put,zq0,zq1,zq2]
 refine FS.Jn (λp k hF=>?_);have E:=qh<|show Bxs p Y 35 [.int .u16 m.x,.int .u16 m.y,.int .u16 m.z,.int .u16 m.t] from X0 (hF.all 12);clear hF;have u:=qh<|u.o.bl k;have q:=qh<|q.o.bl k;have h:=qk h k;clear k;have ak:=qh<|show z.heap.size<=p.heap.size from h.o.size
 go_upto_region 4 with (fail)
 refine FS.Jd 13 [(12,11)] (FS.JI [(7,FS.Sp.made (λx:FV=>.tuple #[x.v,.int .i64 0]) (λx w'=>DF w' p.heap.size x t) FV.blk),(11,FS.Sp.box 32 4 p.heap.size)])
  (λw'=>Bl p w') Zk Zk Zk
  (FS.Jb (FS.Sp.Jf _ (λ_ _ _ s _ hk=>s.kept hk) (FS.JG Zk)) (FS.Jb (FS.Sp.XQ _ _ _ _) (FS.Jh))) (λ_ _ s k=>s.trans (k.mono s.size)) (zk.drew) ?_
 simp only[zu,zi,ze,zx,zy,zv,zw]
 iterate 7
  refine FS.rdw (λw' a=>by obtain⟨M,N,O,R,S,T,U,V,W,X⟩:=(q.o.bl a).d8;obtain⟨M,N,O,R,S,T,U,V,am,an,W,X⟩:=(u.o.bl a).d10;go_simp;try rfl) ?_
 refine FS.Jc rfl rfl rfl (λw' f=>?_) ?_
 ·have a:=f.world;refine FS.Jm (FS.PM (λx:FV=>.tuple #[x.v,.int .i64 0]) (λx w'=>DF w' p.heap.size x t) FV.blk w'.heap.size) ?_ (λ_ _ s=>s.post (FV.injE 0));go_simp;have F:=qdiv (NT.o.below (h.o.trans (a.mono h.o.size))) (((NT.o.below (h.o.trans (a.mono h.o.size)))).len H.o (by decide:_<=900000)) (NY.o.below (h.o.trans (a.mono h.o.size))) (((NY.o.below (h.o.trans (a.mono h.o.size)))).len ab.o (by decide:_<=900000)) (G.o);rw[<- aa.o] at F;refine F.mono ?_;rintro e ao ⟨za,rfl,ho,k⟩;exact⟨_,rfl,⟨za,rfl,ho.mono a.size,ho.QV⟩,k⟩
 rintro _ ⟨l,rfl⟩
 conv=>arg 10;simp only[Act.put,zq0,zq1,zq2]
 iterate 3
  refine FS.rd0 ?_
 refine FS.Jc rfl rfl rfl (λw' f=>?_) ?_
 ·have a:=f.world;refine FS.Jm (FS.PB 32 4 p.heap.size w'.heap.size) ?_ (λ_ _ s=>s.post);go_simp;exact⟨FS.PB.new _ rfl a.size,zk.alloc zj _⟩
 rintro _ ⟨Y,rfl⟩
 conv=>arg 10;simp only[Act.put,zq0,zq1,zq2]
 refine FS.ZF rfl rfl 11 rfl rfl rfl rfl (λ_=>Iff.rfl) (λw' f=>?_) ?_
 ·have a:=f.world;have J:=FS.Yd (f.fact 11 Zk);obtain⟨c0,c1,c2,c3,I⟩:=shp4 J.1;obtain⟨m0,m1,m2,m3,mf,ml⟩:=I.d4;refine FS.ZG ?_ (ja5 a J.2 I (.bool l.t.s) (.slice l.t.a l.t.n l.t.c) (.bool l.l.s) (.slice l.l.a l.l.n l.l.c));clear f;go_simp
  try rfl
 conv=>arg 10;simp only[Act.put,zq0,zq1,zq2]
 refine FS.Jn (λD k hF=>?_);have ah:=qh<|show Bxs D Y 32 (cFv l) from X0 (hF.all 12);have N8:=qh<|show DF D p.heap.size l t from(FS.JQ (val:=(λx:FV=>.tuple #[x.v,.int .i64 0])) (Φ:=λx w'=>DF w' p.heap.size x t) (FV.injE 0) (hF.all 7));clear hF u q;have E:=qh<|E.o.bl k;have h:=qk h k;clear k;obtain⟨ay,az,aA,aB,aC,aD⟩:=ah.o.d4;obtain⟨aq,ar,au,av,aw,ax⟩:=E.o.d4;go_wp2;go_ret2;have ac:Bl D (D.alloc (.cells (TV.cells ⟨l,m⟩).toArray 37)):=zk.alloc zj _;refine⟨⟨some ⟨D.heap.size,0,none⟩,1,1⟩,rfl,?_,h.o.trans (ac.mono h.o.size)⟩;refine⟨⟨[(⟨l,m⟩,t)],?_,λe he=>?_,List.pairwise_singleton _ _,?_⟩,QJ (jec hz G.o),λC ht=>?_⟩
 ·show World.ownsRow _ _ _ _ _ _ _;exact World.ownsRow_lit (base:=z.heap.size) (e:=37) (size:=8) D (TV.cells ⟨l,m⟩).toArray 1 h.o.size Ze rfl
 ·rw[List.mem_singleton.1 he];exact(N8.o.mono ak.o).below ac
 ·show[(m,t)]=[byT (tm,y) (B,ag)];rw[show t=y/ag from aa.o,show m=tm.quo B from HU.o];rfl
 ·rw[List.mem_singleton.1 ht];exact⟨zm (Nat.sub_le _ _) r.o.1,zm (Nat.sub_le _ _) r.o.2.1,zm (Nat.sub_le _ _) r.o.2.2.1,zm (Nat.sub_le _ _) r.o.2.2.2⟩
theorem into_n (bd:Nat) (q:FV) (ac:Rat) (D:Mo) (all a:PV) (l:FV) (tq:Rat) (tm:Mo) (p:World) (K:Bxs p bd 101 (dvC q D all a)) (C:tm.Small) (B:D.Small) (L:¬D.stands tm) (Z:KF p q ac) (Y:KF p l tq) (lq:LQ ac 400000) (lt:LQ tq 400000) (z:ac≠0) :
  Cl 87 #[.pointer (some ⟨bd,0,none⟩),.agg #[.bool l.t.s,.slice l.t.a l.t.n l.t.c,.bool l.l.s,.slice l.l.a l.l.n l.l.c,.int .u16 tm.x,.int .u16 tm.y,.int .u16 tm.z,.int .u16 tm.t]] p λe w'=>e=.returned (.tuple #[.slice none 0 0,.bool false])/\Bl p w':=by
 have m:=qh<|Below.refl p.heap.size p;have r:=qh<|show Bxs p bd 101 [.bool q.t.s,.slice q.t.a q.t.n q.t.c,.bool q.l.s,.slice q.l.a q.l.n q.l.c,.int .u16 D.x,.int .u16 D.y,.int .u16 D.z,.int .u16 D.t,.slice all.a all.n all.c,.slice a.a a.n a.c] from K;have F:=qh C;have G:=qh B;have H:=qh L;have NY:=qh Z;have NT:=qh Y;have ae:=qh lq;have ab:=qh lt;have ad:=qh z;clear K C B L Z Y lq lt z;go_enter func87,ntmps87
 go_upto_region 1 with (fail)
 obtain⟨t,s⟩:=gn (p.alloc (.cells (cTv l tm).toArray 37));have o:=bq s (zk.alloc zj _);have u:=qh (show Bxs t (p.heap.size) 37 (cTv l tm) by have y:=Bxs.new (p) 37 (cTv l tm);rw[s];exact y);rw[<- s];have r:=qh<|r.o.bl o;have m:=qk m o;clear s o
 go_upto_region 1 with (fail)
 refine FS.Jd 13 [(12,11)] (FS.JI [(7,FS.Sp.know (.tuple #[.agg #[.int .u16 0,.int .u16 0,.int .u16 0,.int .u16 0],.bool false])),(11,FS.Sp.box 35 4 t.heap.size)])
  (λw'=>Bl t w') Zk Zk Zk
  (FS.Jb (FS.Sp.Jk _ _) (FS.Jb (FS.Sp.XQ _ _ _ _) (FS.Jh))) (λ_ _ y k=>y.trans (k.mono y.size)) (zk.drew) ?_
 simp only[zu,zi,ze,zx,zy,zv,zw]
 iterate 7
  refine FS.rdw (λw' f=>by obtain⟨M,N,O,R,S,T,U,V,W,X⟩:=(u.o.bl f).d8;obtain⟨M,N,O,R,S,T,U,V,af,ag,W,X⟩:=(r.o.bl f).d10;go_simp;try rfl) ?_
 refine FS.Jc rfl rfl rfl (λw' h=>?_) ?_
 ·have f:=h.world;refine FS.Jm (FS.PK (.tuple #[.agg #[.int .u16 0,.int .u16 0,.int .u16 0,.int .u16 0],.bool false])) ?_ (λ_ _ y=>y.post);go_simp;have CT:=jk8 tm D w' F.o G.o H.o;refine CT.mono ?_;rintro e ah ⟨rfl,k⟩;exact⟨_,rfl,rfl,k⟩
 rintro _ rfl
 conv=>arg 10;simp only[Act.put,zq0,zq1,zq2]
 iterate 3
  refine FS.rd0 ?_
 refine FS.Jc rfl rfl rfl (λw' h=>?_) ?_
 ·have f:=h.world;refine FS.Jm (FS.PB 35 4 t.heap.size w'.heap.size) ?_ (λ_ _ y=>y.post);go_simp;exact⟨FS.PB.new _ rfl f.size,zk.alloc zj _⟩
 rintro _ ⟨aa,rfl⟩
 conv=>arg 10;simp only[Act.put,zq0,zq1,zq2]
 refine FS.ZF rfl rfl 11 rfl rfl rfl rfl (λ_=>Iff.rfl) (λw' h=>?_) ?_
 ·have f:=h.world;have J:=FS.Yd (h.fact 11 Zk);obtain⟨c0,c1,c2,c3,I⟩:=shp4 J.1;obtain⟨m0,m1,m2,m3,mf,ml⟩:=I.d4;refine FS.ZG ?_ (ja5 f J.2 I (.int .u16 0) (.int .u16 0) (.int .u16 0) (.int .u16 0));clear h;go_simp
  try rfl
 conv=>arg 10;simp only[Act.put,zq0,zq1,zq2]
 refine FS.Jn (λw4 k hF=>?_);have E:=qh<|show Bxs w4 aa 35 [.int .u16 0,.int .u16 0,.int .u16 0,.int .u16 0] from X0 (hF.all 12);clear hF r u;have m:=qk m k;clear k E;go_wp2;go_ret2;exact⟨rfl,m.o⟩
structure RS (w:World) (a:Option Addr) (ps:List PV):Prop where
 ex:ps≠[]->∃ b off,a=some ⟨b,off,none⟩/\∀ i p,ps[i]?=some p->w.cell? ⟨b,off+i,none⟩=some p.v
theorem RS.nil (h:World) (a:Option Addr):RS h a []:=⟨λf=>absurd rfl f⟩
theorem RS.below {a:Option Addr} {ps:List PV} (q:RS w a ps) (k:Bl w w'):RS w' a ps:=by
 refine⟨λo=>?_⟩;obtain⟨b,off,h,l⟩:=q.ex o;refine⟨b,off,h,λi p m=>?_⟩;have f:=l i p m;exact(k.cell (p:=⟨b,off+i,none⟩) (block_lt_of_cell f)).trans f
def pw (l:Nat->Rat) (m:Mo) (q:Rat):Nat->Rat
 | 0=>q
 | i+1=>pw l m q i*l i ^ m.at i
theorem pw_four (a:Nat->Rat) (f:Mo) (h:Rat):pw a f h 4=h*atM a f:=by
 show h*a 0 ^ f.x*a 1 ^ f.y*a 2 ^ f.z*a 3 ^ f.t=_;unfold atM;grind
theorem pw_lq {o:Nat->Rat} {l:Mo} {p:Rat} {kp m:Nat} (h:LQ p kp) (a:∀ i,LQ (o i) kl) (f:∀ i,l.at i<=m):∀ i,LQ (pw o l p i) (kp+i*(m*kl+1))
 | 0=>h.up Zo
 | i+1=>by
  have k:=(U1 (a i) (l.at i)).up (Nat.add_le_add_right (Nat.mul_le_mul_right kl (f i)) 1);exact((pw_lq h a f i).ls.mul k.ls).lq (by rw[Nat.add_mul];omega) (by rw[Nat.add_mul];omega)
theorem ev_nq {f:Mo->Rat} {k:Nat}:∀ {L:List Tm},(∀ l∈L,LQ (l.2*f l.1) k)->ev L f=0\/∃ j,0<j/\j<=L.length/\NQ (ev L f) j k
 | [],_=>Or.inl rfl
 | l :: r,h=>by
  have a:=NQ.one (h l (List.mem_cons_self ..));rw[Jq]
  rcases ev_nq (L:=r) (f:=f) λt q=>h t (List.mem_cons_of_mem _ q) with m | ⟨j,o,s,p⟩
  ·rw[m,Rat.add_zero];exact Or.inr ⟨1,Zo,by rw[List.length_cons];omega,a⟩
  ·exact Or.inr ⟨1+j,Zo,by rw[List.length_cons];omega,a.add p Zo o⟩
theorem at_one (m:Mo) (p:Nat) (l:Nat) (o:m.le l):m.at p<=l:=by
 obtain⟨a,f,h,k⟩:=o;unfold Mo.at;split
 ·exact a
 ·split
  ·exact f
  ·split
   ·exact h
   ·exact k
def FB (w:World) (x:FV) (ok:Bool):Prop:=match ok with
 | true=>∃ q,KF w x q
 | false=>BF w x
structure B4 (w:World) (x0 x1 x2 x3:FV) (ok:Nat->Bool):Prop where
 k0:FB w x0 (ok 0)
 k1:FB w x1 (ok 1)
 k2:FB w x2 (ok 2)
 k3:FB w x3 (ok 3)
 l0:LF x0 900000
 l1:LF x1 900000
 l2:LF x2 900000
 l3:LF x3 900000
def IN (w:World) (e:Ending) (w':World):Prop:=∃ r:Nat,e=.returned (.int .i64 (r:Int))/\Bl w w'
theorem DF.only {r:FV} {q:Rat} {f:Array MapEntry} {k:Nat} (p:DF w lo r q) (m:Only c w w') (l:w.heap[c]?=some (.map f k)):DF w' lo r q :=
 p.kept λb h=>by
  obtain⟨o,a⟩:=DF.blkc p h
  exact m.2.2.2.2 b (lt_of_block a) λe=>by rw[e,l] at a;cases a
theorem MK.only {p:List TE} {l:Array MapEntry} {k:Nat} (a:MK w lo b p) (h:Only c w w') (m:w.heap[c]?=some (.map l k)) (f:b≠c):MK w' lo b p :=
 ⟨(h.2.2.2.2 b a.lt f).trans a.blk,a.ge,λe o=>DF.only (a.df e o) h m,a.ap,a.keys,a.small⟩
theorem YD (l:List Tm) (f:Tm) (a k:Nat):jhk (l++[f]) a k=jhk l a k++(if f.1.at a=k then [(f.1.cut a,f.2)] else []):=by
 unfold jhk;rw[List.filter_append,List.map_append]
 congr 1
 by_cases h:f.1.at a=k
 ·rw[if_pos h,List.filter_cons_of_pos (by simpa using h)];rfl
 ·rw[if_neg h,List.filter_cons_of_neg (by simpa using h)];rfl
structure MR (w:World) (lo g d i:Nat) (A:List Tm) (bs:Nat->Option Nat) (Ms:Nat->List TE):Prop where
 row:w.rowIs g 84 (d+1) (λk=>.map (bs k))
 nil:∀ k,k<=d->bs k=none->jhk A i k=[]
 got:∀ k b,k<=d->bs k=some b->MK w lo b (Ms k)/\∀ f,ev ((Ms k).map tm) f=ev (jhk A i k) f
 inj:∀ k j b,k<=d->j<=d->bs k=some b->bs j=some b->k=j
 apk:∀ k j b c,k<=d->j<=d->k≠j->bs k=some b->bs j=some c->∀ e∈Ms k,∀ f∈Ms j,FV.apart e.1.c f.1.c
theorem MR.add {s:Nat->Option Nat} {q:Nat->List TE} (l:MR w lo g d i A s q) {m:Mo} {B:Rat} (t:m.at i<=d) (p:s (m.at i)=some b) (z:Only b w w')
  {r:List TE} (D:MK w' lo b r) (C:r.map tm=YJ (m.cut i) B ((q (m.at i)).map tm)) (y:∀ e∈r,e∈q (m.at i)\/∀ k c,k<=d->s k=some c->∀ f∈q k,FV.apart e.1.c f.1.c):MR w' lo g d i (A++[(m,B)]) s (λk=>if k=m.at i then r else q k) where
 row:=l.row.of_block (z.2.2.2.2 g l.row.lt λe=>by
  obtain⟨c,a,_⟩:=l.row;rw[e,(l.got _ b t p).1.blk] at a
  cases a)
 nil k hkd h0:=by
  rw[YD,l.nil k hkd h0,if_neg λe=>by rw[<- e,show((m,B):Tm).1.at i=m.at i from rfl,p] at h0;cases h0];rfl
 got k c hkd a:=by
  by_cases e:k=m.at i
  ·subst e;obtain rfl:b=c:=Option.some.inj (p.symm.trans a);rw[if_pos rfl];refine⟨D,λf=>?_⟩;rw[C,Ve,(l.got _ b t p).2 f,YD,if_pos rfl,Xi];show _=_+(B*f (m.cut i)+0);grind
  ·rw[if_neg e]
   have h:c≠b:=λu=>e (l.inj k _ b hkd t (by rw[a,u]) p)
   refine⟨MK.only (l.got k c hkd a).1 z (l.got _ b t p).1.blk h,λf=>?_⟩;rw[YD,if_neg λu=>e u.symm,List.append_nil];exact(l.got k c hkd a).2 f
 inj:=l.inj
 apk k j b1 c1 hk' hj' h a h2 e he f hf:=by
  by_cases e1:k=m.at i
  ·rw[if_pos e1] at he;rw[if_neg λl=>h (e1.trans l.symm)] at hf
   rcases y e he with o | o
   ·exact l.apk k j b1 c1 hk' hj' h a h2 e (by rw[e1];exact o) f hf
   ·exact o j c1 hj' h2 f hf
  ·rw[if_neg e1] at he;by_cases e2:j=m.at i
   ·rw[if_pos e2] at hf
    rcases y f hf with o | o
    ·exact l.apk k j b1 c1 hk' hj' h a h2 e he f (by rw[e2];exact o)
    ·exact FV.apart.symm (o k b1 hk' a e he)
   ·rw[if_neg e2] at hf;exact l.apk k j b1 c1 hk' hj' h a h2 e he f hf
theorem OT.blk {k:List TV} (o:OT w lo x.v k) {p:Addr} (h:x.a=some p):lo<=p.block/\p.block<w.heap.size:=by
 rcases o.2 with ⟨a,_⟩ | ⟨g,l,m,a,f,hg,_⟩
 ·injection a with h1
  rw[h] at h1
  cases h1
 ·injection a with h1
  rw[h] at h1
  cases h1
  exact⟨f,lt_of_block hg⟩
structure CZ (w:World) (lo:Nat) (z:PV) (P:List Tm) (D:List TE):Prop where
 row:OT w lo z.v (D.map Prod.fst)
 df:∀ e∈D,DF w lo e.1.c e.2
 ap:D.Pairwise (λe f=>FV.apart e.1.c f.1.c)
 val:D.map tm=P
 small:∀ e∈D,e.1.m.Small
theorem CZ.nil (h:World) (f:Nat):CZ h f ⟨none,0,0⟩ [] []:=⟨World.ownsRow_nil _ _ _ _,λe a=>(by cases a),List.Pairwise.nil,rfl,λe a=>(by cases a)⟩
structure PC (P:List Tm) (n k e:Nat):Prop where
 c:Canon P
 b:PB P n k e
theorem PC.up {k h f a:Nat} (p:PC P n k e) (o:n<=h) (m:k<=f) (l:e<=a):PC P h f a:=⟨p.c,p.b.up o m l⟩
theorem PC.lq {k l:Nat} (m:PC P n k e) (a:k<=l):∀ h∈P,LQ h.2 l:=λh f=>(m.b.lq h f).up a
theorem PC.nil (n k e:Nat):PC [] n k e:=⟨Canon.nil,PB.nil n k e⟩
theorem PC.add (f:PC P n1 k1 e1) (h:PC Q n2 k2 e2) (k e:Nat) (a:k1<=k) (b:k2<=k) (l:e1<=e) (m:e2<=e):PC (Qv P Q) (n1+n2) (2*k+1) e :=
 ⟨JL _ _,PB.add f.c h.c (f.b.up zj a l) (h.b.up zj b m)⟩
theorem PC.mul (f:PC P n1 k1 e1) (a:PC Q n2 k2 e2):PC (Ql P Q) (n1*n2) (n1*(k1+k2+1)) (e1+e2):=⟨Qh _ _,PB.mulC a.c f.b a.b⟩
theorem PC.at {k:Nat} {s:Nat->Rat} (h:PC P n k e) (p:∀ i,LQ (s i) kl):LQ (ev P (atM s)) ((n+1)*(k+4*(e*kl+1)+1)):=by
 have r:∀ a∈P,LQ (a.2*atM s a.1) (k+4*(e*kl+1)):=λa f=>by
  have m:=pw_lq (h.b.lq a f) p (λi=>at_one a.1 i e (h.b.ex a f)) 4;rwa [pw_four] at m
 rcases ev_nq r with l | ⟨j,t,o,q⟩
 ·rw[l];exact ji3 (Nat.mul_pos (Nat.succ_pos _) (Nat.succ_pos _))
 ·exact q.lq (Nat.mul_le_mul_right _ (zm o (Nat.le_succ_of_le h.b.len)))
theorem PV.injE (n:Int):∀ x k:PV,Value.tuple #[x.v,.int .i64 n]=Value.tuple #[k.v,.int .i64 n]->x=k:=λx k f=>PV.inj (by
 have f:=Value.tuple.inj f;have h:=congrArg (λa:Array Value=>a[0]?) f
 exact Option.some.inj h)
def Zx (T:TypeId):Bool:=T==37 || T==128
theorem DP.rows (r:DP w lo x P) (q:∀ (b:Nat) (c:Array Value) (z:TypeId),w.heap[b]?=some (.cells c z (0,0))->Zx z=true->w'.heap[b]?=w.heap[b]?):DP w' lo x P:=by
 obtain⟨B,l,m,h,s⟩:=r.ex;refine⟨⟨B,⟨l.1,l.2.imp id ?_⟩,λe o=>(m e o).kept λb u=>?_,h,s⟩,r.canon,r.small⟩
 ·rintro⟨g,k,a,y,p,f,h⟩;exact⟨g,k,a,y,p,(q g _ _ f rfl).trans f,h⟩
 ·obtain⟨a,t⟩:=DF.blkc (m e o) u;exact q b _ _ t rfl
theorem RawQ.rawP {a:List TO} {m:Nat} (l:RawQ w x a) (hg:Qi m (a.map Prod.fst)):jcj w x a:=l.raw λe k=>by
 obtain⟨f,h⟩:=hg.2 e.1 (List.mem_map_of_mem k);exact⟨zm f Ze,zm h Ze⟩
theorem BP.n_le {f:List TO} {h:Nat} (k:RawQ w x f) (hg:Qi h (f.map Prod.fst)):x.n<=h:=by
 have a:=hg.1;rw[List.length_map,k.2.1] at a;exact a
def R2 (w:World) (p q:Int) (e:Ending) (w':World):Prop:=∃ x y:NV,e=.returned (.agg #[.bool x.s,.slice x.a x.n x.c,.bool y.s,.slice y.a y.n y.c])/\DN w' w.heap.size x p/\DN w' w.heap.size y q/\Bl w w'
abbrev OC (w:World) (lo:Nat) (v:Value) (Zs:List PV):Prop:=w.ownsRow lo 23 1 v Zs.length (Zs.map PV.v)
theorem MR.only {o:World} {f:Nat->Option Nat} {a:Nat->List TE} (m:MR w lo g d i A f a):∀ k b,k<=d->f k=some b->MK w lo b (a k):=λk b l h=>(m.got k b l h).1
theorem OC.own {m:List PV} (p:OC w lo v m) {k:Nat} (a:some k=v.ownBlock):lo<=k/\∃ f,w.heap[k]?=some (.cells f 23 (0,0)):=by
 rcases p.2 with ⟨h,_⟩ | ⟨g,o,f,h,l,hg,_⟩
 ·rw[h] at a;cases a
 ·rw[h] at a;have a:some k=some g:=a
  cases a
  exact⟨l,f,hg⟩
theorem DP.none (k:World) (h:Nat):DP k h ⟨none,0,0⟩ []:=⟨⟨[],World.ownsRow_nil _ _ _ _,λe a=>(by cases a),List.Pairwise.nil,rfl⟩,Canon.nil,λl f=>(by cases f)⟩
theorem bad1 (l:PV) (b:Bool) (h:World) (q:Cl 83 #[l.v] h λe w'=>e=.returned (.bool b)/\Bl h w') :
  Cl 85 #[l.v] h λe w'=>e=.returned (.bool (!b))/\Bl h w':=by
 have a:=qh q;clear q;obtain⟨m,p,o⟩:=l;change Cl 85 #[.slice m p o] h _;go_enter func85,ntmps85;go_wp2_with fail
 with_reducible refine a.o.mono ?_
 rintro e r ⟨rfl,f⟩;have k:=qh f;clear f a;go_wp2;go_ret;exact⟨rfl,k.o⟩
theorem idx_l (a:Option Addr) (c:Nat) (ps:List PV) (h:Nat) (C:World) (V:RS C a ps) (U:ps.length<=1000) (T:h<=ps.length)
  (H:∀ i z,i<h->ps[i]?=some z->∀ k,Bl C k->Cl 83 #[z.v] k λe w'=>e=.returned (.bool true)/\Bl k w')
  (t:∀ z,ps[h]?=some z->∀ k,Bl C k->Cl 83 #[z.v] k λe w'=>e=.returned (.bool false)/\Bl k w') :
  Cl 143 #[.slice a ps.length c,.func (.func 85) #[] #[]] C λe w'=>e=.returned (.int .i64 (if h<ps.length then (h:Int) else -1))/\Bl C w':=by
 have Y:=qh V;have X:=qh U;have W:=qh T;have R:=qh H;have M:=qh t
 have aa:∀ (r:Array Value) (C:World),(callFunc 85 r).run prog C=.ok (.enter 85 r) C:=λ_ _=>Zk
 obtain⟨n,y⟩:=gn ps.length;rw[<- y];have E:=qh y;clear V U T H t y;go_enter func143,ntmps143;go_wp2;go_loopw [8] (λi wr=>∃ j:Nat,j<=h/\i=.int .i64 j/\Bl C wr) (λi _=>n-(intOf i).toNat)
 case atStart=>exact⟨0,Nat.zero_le _,rfl,zk⟩
 case round =>
  obtain⟨j,S,rfl,G⟩:=hrel;have f:=qh G;have N:=qh S;clear S G;by_cases m:j<n
  ·have q:=qh m
   have l:j<ps.length:=by rw[<- E.o];exact m
   obtain⟨Z,po,rfl,u⟩:=(Y.o.below f.o).ex (λe=>by rw[e] at l;simp at l);obtain⟨z,B⟩:∃ z,ps[j]?=some z:=⟨_,List.getElem?_eq_getElem l⟩;have I:=u j z B;have ac:(j:Int)<(n:Int):=Zo;have ek:IntKind.i64.wrap ((j:Int)+1)=(j:Int)+1:=IntWalk.i64_in _ (Zh X);have F:=qh B;obtain⟨J,L,K⟩:=z;change wr.cell? ⟨Z,po+j,none⟩=some (.slice J L K) at I;by_cases o:j<h
   ·have p:=qh<|bad1 ⟨J,L,K⟩ true wr (R.o j _ o F.o wr f.o);have O:=qh o;clear l B u m o;go_wp2_with fail
    with_reducible refine p.o.mono ?_
    rintro e k ⟨rfl,s⟩;have f:=qk f s;clear s p I;go_wp2;go_roundw
    case rel=>exact⟨j+1,Zh O,rfl,f.o⟩
    case measure=>simp[intOf];have:=q.o;omega
   ·obtain rfl:j=h:=Zh N;have p:=qh<|bad1 ⟨J,L,K⟩ false wr (M.o _ F.o wr f.o);clear l B u m o;go_wp2_with fail
    with_reducible refine p.o.mono ?_
    rintro e k ⟨rfl,s⟩;have f:=qk f s;clear s p I;go_wp2;go_ret;exact⟨by first | rfl | rw[if_pos q.o];rfl | rw[if_pos q.o],f.o⟩
  ·have ab:¬((j:Int)<(n:Int)):=Zo;have D:=qh (show ¬h<n by have:=N.o;have:=W.o;have:=E.o;omega);clear m;go_wp2;go_ret;exact⟨by first | rfl | rw[if_neg D.o];rfl | rw[if_neg D.o],f.o⟩
theorem con_l (a:Option Addr) (E:Nat) (ps:List PV) (f:Nat) (q:World) (y:RS q a ps) (u:ps.length<=1000) (t:f<=ps.length)
  (o:∀ i B,i<f->ps[i]?=some B->∀ h,Bl q h->Cl 83 #[B.v] h λe w'=>e=.returned (.bool true)/\Bl h w')
  (k:∀ B,ps[f]?=some B->∀ h,Bl q h->Cl 83 #[B.v] h λe w'=>e=.returned (.bool false)/\Bl h w') :
  Cl 84 #[.slice a ps.length E,.func (.func 85) #[] #[]] q λe w'=>e=.returned (.bool (decide (f<ps.length)))/\Bl q w':=by
 have l:=qh<|idx_l a E ps f q y u t o k;obtain⟨z,p⟩:=gn (if f<ps.length then (f:Int) else -1:Int);rw[<- p] at l
 have r:=qh (show decide (0<=z)=decide (f<ps.length) by
  rw[p];by_cases C:f<ps.length
  ·rw[if_pos C,decide_eq_true C];exact decide_eq_true (Int.natCast_nonneg _)
  ·rw[if_neg C,zo C]
   rfl)
 obtain⟨n,m⟩:=gn ps.length;rw[<- m] at l r ⊢;clear y u t o k p m;go_enter func84,ntmps84;go_wp2_with fail
 with_reducible refine l.o.mono ?_
 rintro e h ⟨rfl,s⟩;have D:=qh s;clear s l;go_wp2;go_ret;exact⟨by rw[<- r.o];rfl,D.o⟩
theorem infoD:(prog.info? 96).map (λi=>(i.zero,i.size,i.bytes))=some (some (.pointer none),1,8):=by kernel_rfl
abbrev ptr (b:Nat):Value:=.pointer (some ⟨b,0,none⟩)
structure DvR where
 b:Nat
 y:FV
 x:PV
 z:PV
abbrev DvE:=DvR × (Dv × List Tm)
structure DvOK (w0 w:World) (lo:Nat) (e:DvE):Prop where
 ge:lo<=e.1.b
 bx:Bxs w e.1.b 101 (dvC e.1.y e.2.1.1.1 e.1.x e.1.z)
 le:DF w lo e.1.y e.2.1.1.2
 all:KP w0 e.1.x e.2.1.2
 of:DP w lo e.1.z e.2.2
theorem DvOK.below {e:DvE} (f:DvOK w0 w lo e) (a:Bl w w'):DvOK w0 w' lo e:=⟨f.ge,f.bx.below a f.bx.lt,f.le.below a,f.all,f.of.below a⟩
abbrev OD (w:World) (lo:Nat) (v:Value) (bs:List Nat):Prop:=w.ownsRow lo 96 1 v bs.length (bs.map ptr)
theorem OD.below {a:List Nat} (p:OD w lo v a) (m:Bl w w'):OD w' lo v a:=by
 refine⟨p.1,p.2.imp id ?_⟩;rintro⟨g,f,h,o,k,hg,l⟩;exact⟨g,f,h,o,k,(m.block g (lt_of_block hg)).trans hg,l⟩
theorem OD.own {m:List Nat} (p:OD w lo v m) {k:Nat} (a:some k=v.ownBlock):lo<=k/\∃ f,w.heap[k]?=some (.cells f 96 (0,0)):=by
 rcases p.2 with ⟨h,_⟩ | ⟨g,o,f,h,l,hg,_⟩
 ·rw[h] at a;cases a
 ·rw[h] at a;have a:some k=some g:=a
  cases a
  exact⟨l,f,hg⟩
theorem DvOK.kept {e:DvE} (a:DvOK w0 w lo e) (f:∀ (b:Nat) (c:Array Value) (h:TypeId),w.heap[b]?=some (.cells c h (0,0))->(Zx h || h==101)=true->w'.heap[b]?=w.heap[b]?):DvOK w0 w' lo e :=
 ⟨a.ge,a.bx.of (f _ _ _ a.bx rfl),a.le.kept λb k=>let ⟨_,h5⟩:=DF.blkc a.le k;f b _ _ h5 rfl,a.all,a.of.rows λb c h hg l=>f b c h hg (by rw[l];rfl)⟩
theorem OD.other {k:List Nat} (m:OD w lo v k) (hg:w.grownBy w' v.ownBlock):∀ (b:Nat) (c:Array Value) (f:TypeId),w.heap[b]?=some (.cells c f (0,0))->(Zx f || f==101)=true->w'.heap[b]?=w.heap[b]?:=λb c f h l =>
 hg.block b (lt_of_block h) λe=>by
  obtain⟨_,c2,a⟩:=m.own e;rw[h] at a
  have:f=96:=by injection a with a;injection a
  subst this;exact absurd l Ze
structure DVS (w0 w:World) (lo:Nat) (v:Value) (es:List DvE):Prop where
 row:OD w lo v (es.map λe=>e.1.b)
 ok:∀ e∈es,DvOK w0 w lo e
 ap:(es.map λe=>e.1.b).Nodup
theorem DVS.below {a:List DvE} (h:DVS w0 w lo v a) (f:Bl w w'):DVS w0 w' lo v a:=⟨h.row.below f,λe k=>(h.ok e k).below f,h.ap⟩
theorem DVS.nil (h k:World) (f:Nat):DVS h k f (.slice none 0 0) []:=⟨World.ownsRow_nil _ _ _ _,λe a=>(by cases a),List.nodup_nil⟩
theorem DVS.push {wr h:World} {p:Value} {f:List DvE} {e:DvE} {k q:Obj} (r:DVS w0 wr lo v f) (y:DvOK w0 (wr.alloc k) lo e) (B:e.1.b=wr.heap.size)
  (z:OD h lo p (f.map (λe=>e.1.b)++[e.1.b])) (hg:((wr.alloc k).alloc q).grownBy h v.ownBlock):DVS w0 h lo p (f++[e]):=by
 have s:Bl wr ((wr.alloc k).alloc q):=(zk.alloc zj _).alloc (by simp) _;have t:Below (wr.alloc k).heap.size (wr.alloc k) ((wr.alloc k).alloc q):=zk.alloc zj _;have l:=r.below s;have o:=l.row.other hg;refine⟨by rw[List.map_append];exact z,λd a=>?_,?_⟩
 ·rcases List.mem_append.1 a with a | a
  ·exact(l.ok d a).kept o
  ·rw[List.mem_singleton.1 a];exact(y.below t).kept o
 ·rw[List.map_append];refine List.nodup_append.2 ⟨r.ap,List.nodup_cons.2 ⟨by simp,List.nodup_nil⟩,λb m c u e1=>?_⟩;obtain⟨d,a,rfl⟩:=List.mem_map.1 m
  obtain rfl:c=e.1.b:=by simpa using u
  have:=(r.ok d a).bx.lt;omega
def DvsR (w:World) (o:Int) (qs:List (PV × List Tm)) (e:Ending) (w':World):Prop :=
 ∃ v es,e=.returned (.tuple #[v,.int .i64 0])/\DVS w w' w.heap.size v es/\es.map (λe=>(e.1.x,e.2.1.2))=qs/\(∀ e∈es,Zr (JN o) e.2.1.2 e.2.1.1/\e.2.2=[]/\e.1.z=⟨none,0,0⟩)/\Bl w w'
theorem jet (o:Int) (a:Option Addr) (c:Nat) (h:List (PV × List Tm)) (B:World) (hr:RS B a (h.map Prod.fst)) (hn:h.length<=1000)
  (L:∀ V∈h,KP B V.1 V.2/\(∀ aC∈V.2,LQ aC.2 900000)/\V.1.n<=1000000/\V.2≠[]) :
  Cl 86 #[.int .u8 o,.slice a h.length c] B (DvsR B o h):=by
 have HR:=qh hr;have W:=qh hn;have HK:=qh L;obtain⟨n,E⟩:=gn h.length;rw[<- E];have l:=qh E;obtain⟨i1,hi,ah,ai,aj⟩:=info_parts infoD;clear hr hn L E;go_enter func86,ntmps86;go_wp2;go_loopw [4,12] (λv i wr=>∃ (j:Nat) (m:List DvE),j<=n/\i=.int .i64 j/\DVS B wr B.heap.size v m/\m.map (λe=>(e.1.x,e.2.1.2))=h.take j/\(∀ e∈m,Zr (JN o) e.2.1.2 e.2.1.1/\e.2.2=[]/\e.1.z=⟨none,0,0⟩)/\Bl B wr) (λ_ i _=>n-(intOf i).toNat)
 case atStart=>exact⟨0,[],Nat.zero_le _,rfl,DVS.nil _ _ _,rfl,λe r=>(by cases r),zk⟩
 case round =>
  obtain⟨j,m,s,rfl,hd,hm,hl,O⟩:=hrel;have HJ:=qh s;have q:=qh hd;have J:=qh hm;have HL:=qh hl;have f:=qh O
  have S:m.length=j:=by
   have h1:=congrArg List.length hm;rw[List.length_map,List.length_take,<- l.o] at h1;omega
  have N:=qh S;clear s hd hm hl O S;by_cases z:j<n
  ·have t:=qh z
   have y:j<h.length:=by rw[<- l.o];exact z
   obtain⟨pb,po,rfl,R⟩:=(HR.o.below f.o).ex (λe=>by rw[List.map_eq_nil_iff] at e;rw[e] at y;simp at y);obtain⟨⟨ak,am⟩,M⟩:∃ ak,h[j]?=some ak:=⟨_,List.getElem?_eq_getElem y⟩;have hc:=R j ak (by rw[List.getElem?_map,M];rfl);have af:=qh M;obtain⟨k1,k2,k3,k4⟩:=HK.o _ (List.mem_of_getElem? M);have ac:=qh k1;have LD:=qh<|jh7 o ak am wr (k1.below f.o).any k2 k3 k4;have aB:(j:Int)<(n:Int):=Zo;have Z:IntKind.i64.wrap ((j:Int)+1)=(j:Int)+1:=IntWalk.i64_in _ (Zi W l);have ab:=qh Z;obtain⟨G,I,H⟩:=ak;change wr.cell? ⟨pb,po+j,none⟩=some (.slice G I H) at hc;clear y M R k1 k2 k3 k4 z;go_wp2_with fail
   with_reducible refine LD.o.mono ?_
   rintro e w1 ⟨C,⟨U,V⟩,rfl,hy,T,hb⟩;have X:=qh<|hy.mono f.o.size;have ad:=qh T;have q:=qh<|q.o.below hb;have f:=qk f hb;clear hy T hb LD hc Z
   go_upto_region 7 with (fail)
   obtain⟨Y,K⟩:=gn (w1.alloc (.cells (cTv C U).toArray 37));have u:=bq K (zk.alloc zj _);have B8:=qh<|al K;obtain⟨A8,D⟩:=gn w1.heap.size;rw[<- K,<- D];rw[<- D] at B8;have q:=qh<|q.o.below u;have X:=qh<|X.o.below u;have f:=qk f u;have Z:=ab.o;clear K u D;obtain⟨an,ao,aq,ar,au,av,aw,ax,ay,az⟩:=B8.o.d8;go_wp2_with (first | (at_builtin;refine wpList_append_own _ rfl _ _ 93 rfl B.heap.size 96 i1 _ 1 8 underlying93 hi ah ai aj rfl Ze _ _ _ rfl ((q.o.row.alloc _).alloc _) ⟨Y.heap.size+1,0,none⟩ 1 1 [ptr Y.heap.size] rfl rfl ?c1 ?c2 ?c3 ?c4 ?c5 ?_))
   case c1 =>
    intro j aD s
    match j,s with
    | 0,s=>simp at s;subst s;simp[Addr.add]
   case c2 =>
    intro aD hu;rw[List.mem_singleton.1 hu];rfl
   case c3=>rw[List.length_map,N.o];have:=t.o;have:=l.o;have:=W.o;unfold maxLen;omega
   case c4=>rw[List.length_map,N.o];have:=t.o;have:=l.o;have:=W.o;omega
   case c5=>have:=f.o.size;simp;omega
   intro v' w5 F p _
   have ae:=qh (show DvOK B (Y.alloc (.cells #[.bool C.t.s,.slice C.t.a C.t.n C.t.c,.bool C.l.s,.slice C.l.a C.l.n C.l.c,.int .u16 U.x,.int .u16 U.y,.int .u16 U.z,.int .u16 U.t,.slice G I H,.slice none 0 0] 101)) B.heap.size (⟨Y.heap.size,C,⟨G,I,H⟩,⟨none,0,0⟩⟩,(((U,V),am),[])) from
    ⟨f.o.size,Bxs.new Y 101 (dvC C U ⟨G,I,H⟩ ⟨none,0,0⟩),X.o.below (zk.alloc zj _),ac.o,DP.none _ _⟩)
   have aa:=qh (q.o.push ae.o rfl (show OD w5 B.heap.size v' (m.map (λe=>e.1.b)++[Y.heap.size]) by
    show w5.ownsRow _ _ _ _ _ _;rw[List.length_append,List.map_append,List.length_map,List.map_map]
    exact F) p)
   have ag:=qh (show Bl B w5 from((f.o.alloc f.o.size _).alloc (by have:=f.o.size;simp;omega) _).grown p (by have:=f.o.size;simp;omega) λk L=>(q.o.row.own L.symm).1);clear F p;go_wp2;go_roundw
   case rel =>
    refine⟨j+1,m++[(⟨Y.heap.size,C,⟨G,I,H⟩,⟨none,0,0⟩⟩,(((U,V),am),[]))],Zh t,rfl,aa.o,?_,λe r=>?_,ag.o⟩
    ·rw[List.map_append,J.o,List.take_add_one,af.o];rfl
    ·rcases List.mem_append.1 r with r | r
     ·exact HL.o e r
     ·rw[List.mem_singleton.1 r];exact⟨ad.o,rfl,rfl⟩
   case measure=>simp[intOf];have:=t.o;omega
  ·have aA:¬((j:Int)<(n:Int)):=Zo;have J:=qh (show m.map (λe=>(e.1.x,e.2.1.2))=h by rw[J.o];exact List.take_of_length_le (by rw[<- l.o];omega));clear z;go_wp2;go_ret2;exact⟨_,m,rfl,q.o,J.o,HL.o,f.o⟩
theorem jhv (o:Int) (a:Option Addr) (c:Nat) (h:List (PV × List Tm)) (z:Nat) (F:World) (hr:RS F a (h.map Prod.fst)) (hn:h.length<=1000) (h0:z<h.length)
  (X:∀ E∈h,KP F E.1 E.2/\(∀ aE∈E.2,LQ aE.2 900000)/\E.1.n<=1000000) (R:∀ i E,i<z->h[i]?=some E->E.2≠[]) (hz:∀ E,h[z]?=some E->E.2=[]) :
  Cl 86 #[.int .u8 o,.slice a h.length c] F λe w'=>e=.returned (.tuple #[.slice none 0 0,.int .i64 6])/\Bl F w':=by
 have HR:=qh hr;have HN:=qh hn;have HK:=qh X;have H0:=qh h0;have ai:=qh R;have HZ:=qh hz;obtain⟨n,M⟩:=gn h.length;rw[<- M];have p:=qh M;obtain⟨i1,hi,am,an,ao⟩:=info_parts infoD;clear hr hn X M h0 R hz;go_enter func86,ntmps86;go_wp2;go_loopw [4,12] (λv i wr=>∃ (j:Nat) (U:List DvE),j<=z/\U.length=j/\i=.int .i64 j/\DVS F wr F.heap.size v U/\Bl F wr) (λ_ i _=>n-(intOf i).toNat)
 case atStart=>exact⟨0,[],Nat.zero_le _,rfl,rfl,DVS.nil _ _ _,zk⟩
 case round =>
  obtain⟨j,U,q,L,rfl,hd,J⟩:=hrel;have HJ:=qh q;have s:=qh hd;have f:=qh J;have G:=qh L;have m:=qh (show j<n by have:=H0.o;have:=p.o;omega)
  have r:j<h.length:=by rw[<- p.o];exact m.o
  obtain⟨pb,po,rfl,K⟩:=(HR.o.below f.o).ex (λe=>by rw[List.map_eq_nil_iff] at e;rw[e] at r;simp at r);obtain⟨⟨aa,aq⟩,O⟩:∃ aa,h[j]?=some aa:=⟨_,List.getElem?_eq_getElem r⟩;have W:=K j aa (by rw[List.getElem?_map,O];rfl);have Z:=qh O;obtain⟨k1,k2,Y⟩:=HK.o _ (List.mem_of_getElem? O);have ag:=qh k1;have aD:(j:Int)<(n:Int):=Zh m;have T:IntKind.i64.wrap ((j:Int)+1)=(j:Int)+1:=IntWalk.i64_in _ (Zi HN p);have ae:=qh T;by_cases u:j<z
  ·have af:=qh u;have H:=qh<|jh7 o aa aq wr (k1.below f.o).any k2 Y (ai.o j _ u Z.o);obtain⟨B,D,C⟩:=aa;change wr.cell? ⟨pb,po+j,none⟩=some (.slice B D C) at W;clear r O K k1 k2 Y u q hd J L;go_wp2_with fail
   with_reducible refine H.o.mono ?_
   rintro e w1 ⟨S,⟨ab,E⟩,rfl,hy,ak,y⟩;have HY:=qh<|hy.mono f.o.size;have s:=qh<|s.o.below y;have f:=qk f y;clear hy ak y H W T
   go_upto_region 7 with (fail)
   obtain⟨ac,V⟩:=gn (w1.alloc (.cells (cTv S ab).toArray 37));have t:=bq V (zk.alloc zj _);have B8:=qh<|al V;obtain⟨A8,I⟩:=gn w1.heap.size;rw[<- V,<- I];rw[<- I] at B8;have s:=qh<|s.o.below t;have HY:=qh<|HY.o.below t;have f:=qk f t;have T:=ae.o;clear V t I;obtain⟨ar,au,av,aw,ax,ay,az,aA,aB,aC⟩:=B8.o.d8;go_wp2_with (first | (at_builtin;refine wpList_append_own _ rfl _ _ 93 rfl F.heap.size 96 i1 _ 1 8 underlying93 hi am an ao rfl Ze _ _ _ rfl ((s.o.row.alloc _).alloc _) ⟨ac.heap.size+1,0,none⟩ 1 1 [ptr ac.heap.size] rfl rfl ?c1 ?c2 ?c3 ?c4 ?c5 ?_))
   case c1 =>
    intro j aF q
    match j,q with
    | 0,q=>simp at q;subst q;simp[Addr.add]
   case c2 =>
    intro aF hu;rw[List.mem_singleton.1 hu];rfl
   case c3=>rw[List.length_map,G.o];have:=m.o;have:=p.o;have:=HN.o;unfold maxLen;omega
   case c4=>rw[List.length_map,G.o];have:=m.o;have:=p.o;have:=HN.o;omega
   case c5=>have:=f.o.size;simp;omega
   intro v' w5 N l _
   have ah:=qh (show DvOK F (ac.alloc (.cells #[.bool S.t.s,.slice S.t.a S.t.n S.t.c,.bool S.l.s,.slice S.l.a S.l.n S.l.c,.int .u16 ab.x,.int .u16 ab.y,.int .u16 ab.z,.int .u16 ab.t,.slice B D C,.slice none 0 0] 101)) F.heap.size (⟨ac.heap.size,S,⟨B,D,C⟩,⟨none,0,0⟩⟩,(((ab,E),aq),[])) from
    ⟨f.o.size,Bxs.new ac 101 (dvC S ab ⟨B,D,C⟩ ⟨none,0,0⟩),HY.o.below (zk.alloc zj _),ag.o,DP.none _ _⟩)
   have ad:=qh (s.o.push ah.o rfl (show OD w5 F.heap.size v' (U.map (λe=>e.1.b)++[ac.heap.size]) by
    show w5.ownsRow _ _ _ _ _ _;rw[List.length_append,List.map_append,List.length_map,List.map_map]
    exact N) l)
   have aj:=qh (show Bl F w5 from((f.o.alloc f.o.size _).alloc (by have:=f.o.size;simp;omega) _).grown l (by have:=f.o.size;simp;omega) λk X=>(s.o.row.own X.symm).1);clear N l;go_wp2;go_roundw
   case rel=>exact⟨j+1,_,Zh af,by rw[List.length_append,G.o];rfl,rfl,ad.o,aj.o⟩
   case measure=>simp[intOf];have:=m.o;omega
  ·have hD:aq=[]:=HZ.o (aa,aq) (by rw[show z=j by omega];exact Z.o);have H:=qh<|lead_nil o aa wr (hD▸(k1.below f.o).any) Y;obtain⟨B,D,C⟩:=aa;change wr.cell? ⟨pb,po+j,none⟩=some (.slice B D C) at W;clear r O K k1 k2 Y u q hd J L hD;go_wp2_with fail
   with_reducible refine H.o.mono ?_
   rintro e w1 ⟨rfl,y⟩;have f:=qk f y;clear y H W T;go_wp2;go_ret2;exact⟨rfl,f.o.alloc f.o.size _⟩
def l4 (a b c d:Rat):Nat->Rat:=λi=>if i=0 then a else if i=1 then b else if i=2 then c else d
open Classical in
noncomputable def V9 {α:Type} (R:α->Prop) (μ:α->Nat):Nat:=if h:∃ m,(∃ s,R s/\μ s=m)/\∀ s,R s->m<=μ s then Classical.choose h else 0
theorem jgc {m:Type} (o:m->Prop) (h:m->Nat):∀ n f,o f->h f=n->∃ t,(∃ f,o f/\h f=t)/\∀ f,o f->t<=h f:=by
 intro n
 induction n using Nat.strongRecOn with
 | ind n ih =>
  intro f s u;by_cases k:∃ a,o a/\h a < n
  ·obtain⟨a,q,r⟩:=k;exact ih _ r a q rfl
  ·exact⟨n,⟨f,s,u⟩,λa p=>Nat.le_of_not_lt λl=>k ⟨a,p,l⟩⟩
theorem jgd {k:Type} {h:k->Prop} {μ:k->Nat} (o:∃ f,h f):∃ f,h f/\μ f=V9 h μ:=by
 obtain⟨f,m⟩:=o;have a:=jgc h μ _ f m rfl;have l:V9 h μ=Classical.choose a:=dif_pos a;rw[l];exact(Classical.choose_spec a).1
theorem least_le {f:Type} {h:f->Prop} {μ:f->Nat} {k:f} (m:h k):V9 h μ<=μ k:=by
 have a:=jgc h μ _ k m rfl;have l:V9 h μ=Classical.choose a:=dif_pos a;rw[l];exact(Classical.choose_spec a).2 k m
def PP (w0 w:World) (lo:Nat) (x:PV) (P:List Tm):Prop:=KP w0 x P\/DP w lo x P
theorem PP.k (a:PP w0 w lo x P) (f:Bl w0 w):KP w x P:=a.elim (λa=>a.below f) (λa=>a.k)
theorem PP.below (a:PP w0 w lo x P) (f:Bl w w'):PP w0 w' lo x P:=a.imp id λa=>a.below f
theorem PP.canon (a:PP w0 w lo x P):Canon P:=a.elim (λa=>a.canon) (λa=>a.canon)
theorem PP.small (a:PP w0 w lo x P):∀ f∈P,f.1.Small:=a.elim (λa=>a.small) (λa=>a.small)
theorem PP.rows (a:PP w0 w lo x P) (f:∀ (b:Nat) (c:Array Value) (h:TypeId),w.heap[b]?=some (.cells c h (0,0))->Zx h=true->w'.heap[b]?=w.heap[b]?):PP w0 w' lo x P:=a.imp id λa=>a.rows f
theorem OD.slice {f:List Nat} (y:OD w lo v f):∃ a c,v=.slice a f.length c/\∀ i b,f[i]?=some b->∃ g,a=some ⟨g,0,none⟩/\w.cell? ⟨g,i,none⟩=some (ptr b):=by
 rcases y.2 with ⟨l,p⟩ | ⟨g,m,r,l,u,_,hg,_,s,k⟩
 ·have q:f=[]:=List.length_eq_zero_iff.1 p;subst q;exact⟨none,0,l,λi b h=>by simp at h⟩
 ·refine⟨some ⟨g,0,none⟩,m,l,λi b h=>⟨g,rfl,?_⟩⟩;have t:=(List.getElem?_eq_some_iff.1 h).1;rw[cell_of_row _ _ _ _ _ _ ‹_›]
  have o:(f.map ptr)[i]?=some (ptr b):=by rw[List.getElem?_map,h];rfl
  rw[<- k,List.getElem?_take,if_pos Zo,Array.getElem?_toList] at o;exact o
theorem OD.mono {a:Nat} {f:List Nat} (o:OD w lo v f) (q:a<=lo):OD w a v f:=by
 refine⟨o.1,o.2.imp id ?_⟩;rintro⟨g,h,k,m,p,l⟩;exact⟨g,h,k,m,Zo,l⟩
theorem jge {l:List Value} (k:Bxs w b 101 l) (m:Nat) (v:Value):∀ (g:Nat) (c:Array Value) (f:TypeId),w.heap[g]?=some (.cells c f (0,0))->Zx f=true->(w.setCell ⟨b,m,none⟩ v).heap[g]?=w.heap[g]?:=λg c f hg h =>
 Below.heap_setCell _ _ _ _ λe=>by
  have e:g=b:=e;subst e;have a:w.heap[g]?=some (.cells l.toArray 101 (0,0)):=k;rw[hg] at a
  have:f=101:=by injection a with a;injection a
  subst this;exact absurd h Ze
theorem DVS.store {h:List DvE} (D:DVS w0 w lo v h) {e:DvE} (t:h[i]?=some e) {z:PV} {J:List Tm} (N:DP w lo z J) :
  DVS w0 (w.setCell ⟨e.1.b,9,none⟩ z.v) lo v (h.set i (⟨e.1.b,e.1.y,e.1.x,z⟩,e.2.1,J)):=by
 have k:=D.ok e (List.mem_of_getElem? t);have u:=jge k.bx 9 z.v;have B:=(List.getElem?_eq_some_iff.1 t).1
 have y:(h.set i ((⟨e.1.b,e.1.y,e.1.x,z⟩:DvR),e.2.1,J)).map (λe=>e.1.b)=h.map λe=>e.1.b:=by
  rw[List.map_set]
  refine List.ext_getElem? λj=>?_
  rw[List.getElem?_set];split
  ·rename_i o;subst o;rw[if_pos (by rw[List.length_map];exact B),List.getElem?_map,t];rfl
  ·rfl
 refine⟨?_,λd L=>?_,by rw[y];exact D.ap⟩
 ·rw[y];refine⟨D.row.1,D.row.2.imp id ?_⟩;rintro⟨g,E,F,M,H,hg,K⟩;refine⟨g,E,F,M,H,(Below.heap_setCell _ _ _ _ λe1=>?_).trans hg,K⟩;have e1:g=e.1.b:=e1;have a:w.heap[e.1.b]?=some (.cells _ 101 (0,0)):=k.bx;rw[<- e1,hg] at a
  injection a with a
  injection a with _ a
  exact absurd a Ze
 ·obtain⟨j,m⟩:=List.mem_iff_getElem?.1 L;rw[List.getElem?_set] at m;split at m
  ·try rw[if_pos B] at m
   obtain rfl:_=d:=Option.some.inj m;exact⟨k.ge,k.bx.put 9 _,k.le.kept λb C=>let ⟨_,h5⟩:=DF.blkc k.le C;u b _ _ h5 rfl,k.all,N.rows u⟩
  ·rename_i o;have G:=List.mem_of_getElem? m;have f:=D.ok d G
   have r:d.1.b≠e.1.b:=λe1=>o (by
    have s:(h.map λe=>e.1.b)[j]?=some d.1.b:=by rw[List.getElem?_map,m];rfl
    have a:(h.map λe=>e.1.b)[i]?=some d.1.b:=by rw[List.getElem?_map,t,e1];rfl
    have p:=(List.getElem?_eq_some_iff.1 s).1;have l:=(List.getElem?_eq_some_iff.1 a).1;rw[List.getElem?_eq_getElem p] at s;rw[List.getElem?_eq_getElem l] at a
    exact(List.nodup_iff_pairwise_ne.1 D.ap |> λI=>by
     refine Classical.byContradiction λr=>?_
     rcases Nat.lt_or_gt_of_ne r with q | q
     ·exact(List.pairwise_iff_getElem.1 I _ _ l p q) ((Option.some.inj a).trans (Option.some.inj s).symm)
     ·exact(List.pairwise_iff_getElem.1 I _ _ p l q) ((Option.some.inj s).trans (Option.some.inj a).symm)))
   exact⟨f.ge,f.bx.other r _,f.le.kept λb C=>let ⟨_,h5⟩:=DF.blkc f.le C;u b _ _ h5 rfl,f.all,f.of.rows u⟩
theorem ds_eq {o:Int}:∀ {h m:List Dv},h.map Prod.snd=m.map Prod.snd->(∀ d∈h,Zr (JN o) d.2 d.1)->(∀ d∈m,Zr (JN o) d.2 d.1)->(∀ d∈h,Canon d.2/\∀ q∈d.2,q.1.Small)->h=m
 | [],[],_,_,_,_=>rfl
 | [],_ :: _,p,_,_,_=>by simp at p
 | _ :: _,[],p,_,_,_=>by simp at p
 | (a,A) :: h,(b,B) :: m,p,h1,h2,h3=>by
  rw[List.map_cons,List.map_cons,List.cons.injEq] at p;obtain⟨e,p⟩:=p;have e:A=B:=e;subst e;obtain⟨r,k⟩:=h3 _ (List.mem_cons_self ..);have:=XU (Kz o) r (λq l=>⟨(k q l).1,(k q l).2.1,(k q l).2.2.1,(k q l).2.2.2⟩) (h1 (a,A) (List.mem_cons_self ..)) (h2 (b,A) (List.mem_cons_self ..));have this:a=b:=this;subst this;rw[ds_eq p (λd f=>h1 d (List.mem_cons_of_mem _ f)) (λd f=>h2 d (List.mem_cons_of_mem _ f)) λd f=>h3 d (List.mem_cons_of_mem _ f)]
theorem jc5 {k o:Type} (f:k->o) {m:List k} {a b:k} (p:m[j]?=some a) (l:f b=f a):(m.set j b).map f=m.map f:=by
 refine List.ext_getElem? λi=>?_
 rw[List.getElem?_map,List.getElem?_map,List.getElem?_set];by_cases h:j=i
 ·subst h;rw[if_pos rfl,if_pos (List.getElem?_eq_some_iff.1 p).1,p,Option.map_some,Option.map_some,l]
 ·rw[if_neg h]
theorem jeu {k l:Type} (f:k->l) (p:l->l) {o:List k} {a b:k} (q:o[j]?=some a) (m:f b=p (f a)):(o.set j b).map f=(o.map f).modify j p:=by
 refine List.ext_getElem? λi=>?_
 rw[List.getElem?_map,List.getElem?_set,List.getElem?_modify,List.getElem?_map];by_cases h:j=i
 ·subst h;rw[if_pos rfl,if_pos (List.getElem?_eq_some_iff.1 q).1,q,Option.map_some,Option.map_some,m];simp
 ·rw[if_neg h];simp[h]
structure DivP (o:Int) (ds:List Dv) (Inv:DS->Prop) (μ:DS->Nat) (k kd nd n:Nat):Prop where
 lq:∀ s,Inv s->(∀ t∈s.p,LQ t.2 k)/\(∀ t∈s.r,LQ t.2 k)/\∀ q∈s.os,∀ t∈q,LQ t.2 k
 len:∀ s,Inv s->s.p.length<=n/\s.r.length<=n/\∀ q∈s.os,q.length<=n
 step:∀ s s',Inv s->Canon s.p->Canon s.r->(∀ q∈s.os,Canon q)->(∀ t∈s'.p,t.1.Small)->Step (JN o) ds s s'->Inv s'/\μ s' < μ s
 dl:∀ d∈ds,(∀ t∈d.2,LQ t.2 kd)/\d.2.length<=nd/\Zr (JN o) d.2 d.1
 hk:2*(k+2*kd+1)+8<=800000
 hkk:nd*(k+2*kd+5)<=900000
 hn:n<=400000
 hnd:nd<=100000
abbrev OQ (w:World) (lo:Nat) (v:Value) (Zs:List PV):Prop:=w.ownsRow lo 23 1 v Zs.length (Zs.map PV.v)
theorem infoPq:(prog.info? 23).map (λi=>(i.zero,i.size,i.bytes))=some (some (.slice none 0 0),1,24):=by kernel_rfl
theorem OQ.own {m:List PV} (p:OQ w lo v m) {k:Nat} (a:some k=v.ownBlock):lo<=k/\∃ f,w.heap[k]?=some (.cells f 23 (0,0)):=by
 rcases p.2 with ⟨h,_⟩ | ⟨g,o,f,h,l,hg,_⟩
 ·rw[h] at a;cases a
 ·rw[h] at a;have a:some k=some g:=a
  cases a
  exact⟨l,f,hg⟩
theorem OQ.other {k:List PV} (m:OQ w lo v k) (hg:w.grownBy w' v.ownBlock):∀ (b:Nat) (c:Array Value) (f:TypeId),w.heap[b]?=some (.cells c f (0,0))->(Zx f || f==101 || f==96)=true->w'.heap[b]?=w.heap[b]?:=λb c f h l =>
 hg.block b (lt_of_block h) λe=>by
  obtain⟨_,c2,a⟩:=m.own e;rw[h] at a
  have:f=23:=by injection a with a;injection a
  subst this;exact absurd l Ze
theorem DVS.kept {k:List DvE} (o:DVS w0 w lo v k) (l:∀ (b:Nat) (c:Array Value) (f:TypeId),w.heap[b]?=some (.cells c f (0,0))->(Zx f || f==101 || f==96)=true->w'.heap[b]?=w.heap[b]?):DVS w0 w' lo v k:=by
 refine⟨⟨o.row.1,o.row.2.imp id ?_⟩,λe r=>(o.ok e r).kept λb c f hg q=>l b c f hg (by rw[q];rfl),o.ap⟩;rintro⟨g,h,a,s,m,hg,p⟩;exact⟨g,h,a,s,m,(l g a _ hg rfl).trans hg,p⟩
theorem jcr {a:World} {l:FV} {f:Mo} {m:Rat} (s:DF a lo l m) (k:lo<=a.heap.size) (q:f.Small) (o:m≠0):DP (a.alloc (.cells (TV.cells ⟨l,f⟩).toArray 37)) lo ⟨some ⟨a.heap.size,0,none⟩,1,1⟩ [(f,m)]:=by
 have h:Bl a (a.alloc (.cells (TV.cells ⟨l,f⟩).toArray 37)):=zk.alloc zj _;refine⟨⟨[(⟨l,f⟩,m)],?_,λe p=>?_,List.pairwise_singleton _ _,rfl⟩,QJ o,λt r=>?_⟩
 ·show World.ownsRow _ _ _ _ _ _ _;exact World.ownsRow_lit (base:=lo) (e:=37) (size:=8) a (TV.cells ⟨l,f⟩).toArray 1 k Ze rfl
 ·rw[List.mem_singleton.1 p];exact s.below h
 ·rw[List.mem_singleton.1 r];exact q
theorem off_pb {D:List Tm} {u:Tm} {m h nd:Nat} (q:Canon D) (y:u.2≠0) (o:∀ k∈D,LQ k.2 m) (r:D.length<=nd) (p:LQ u.2 h) (s:∀ k∈Ql D [u],k.1.Small):PB (Ql D [u]) nd (m+h+1) 65535:=by
 have t:PB [u] 1 h 65535\/True:=Or.inr trivial;refine⟨?_,λk a=>?_,λk a=>s k a⟩
 ·unfold Ql;refine zm (K9 _) ?_;rw[VQ,List.length_singleton,Nat.mul_one];exact r
 ·have l:=(Qh D [u]).Qa a;obtain⟨z,f,e⟩:=UQ a;rw[jar D u e,q.Qa f] at l;rw[<- l];exact((o z f).ls.mul p.ls).lq Zo Zo
def Mo.many (m:Mo):Nat:=m.x+m.y+m.z+m.t
theorem jh8 (a:TV) (k:World) (p:a.m.Small):Cl 141 #[TV.v a] k λe w'=>e=.returned (.int .i64 (a.m.many:Int))/\Bl k w':=by
 obtain⟨q,r,s,t⟩:=p;obtain⟨M,f⟩:=gn (k.alloc (.cells (cTv a.c a.m).toArray 37));have h:=bq f (zk.alloc zj _);have l:=qh<|al f;have o:=qh h;have m:=qh f;have e1:IntKind.i64.wrap ((a.m.x:Int)+(a.m.y:Int))=(a.m.x:Int)+(a.m.y:Int):=IntWalk.i64_in _ Zo;have e2:IntKind.i64.wrap ((a.m.x:Int)+(a.m.y:Int)+(a.m.z:Int))=(a.m.x:Int)+(a.m.y:Int)+(a.m.z:Int):=IntWalk.i64_in _ Zo;have H:IntKind.i64.wrap ((a.m.x:Int)+(a.m.y:Int)+(a.m.z:Int)+(a.m.t:Int))=(a.m.x:Int)+(a.m.y:Int)+(a.m.z:Int)+(a.m.t:Int):=IntWalk.i64_in _ Zo;have I:IntKind.i64.wrap (a.m.x:Int)=(a.m.x:Int):=IntWalk.i64_in _ Zo;have J:IntKind.i64.wrap (a.m.y:Int)=(a.m.y:Int):=IntWalk.i64_in _ Zo;have K:IntKind.i64.wrap (a.m.z:Int)=(a.m.z:Int):=IntWalk.i64_in _ Zo;have L:IntKind.i64.wrap (a.m.t:Int)=(a.m.t:Int):=IntWalk.i64_in _ Zo;change Cl 141 #[.agg #[.bool a.c.t.s,.slice a.c.t.a a.c.t.n a.c.t.c,.bool a.c.l.s,.slice a.c.l.a a.c.l.n a.c.l.c,.int .u16 a.m.x,.int .u16 a.m.y,.int .u16 a.m.z,.int .u16 a.m.t]] k _;clear f h q r s t;go_enter func141,ntmps141
 go_upto_region 1 with (fail)
 rw[<- m.o];obtain⟨d10,u,y,z,B,C,D,E,F,G⟩:=l.o.d8;go_wp2;go_ret;refine⟨?_,o.o⟩;show Ending.returned (.int .i64 _)=.returned (.int .i64 ((a.m.x+a.m.y+a.m.z+a.m.t:Nat):Int));rw[Int.natCast_add,Int.natCast_add,Int.natCast_add]
def XP (d:Nat) (ts:List TV):Bool:=ts.any λt=>decide (d<t.m.many)
theorem jhw (r:Nat) (U:PV) (a:List TV) (T:World) (R:RT T U.a a) (M:a.length=U.n) (N:U.n<=9223372036854775807) (S:∀ h∈a,h.m.Small) :
  Cl 81 #[.int .i64 (r:Int),U.v] T λe w'=>e=.returned (.bool (XP r a))/\Bl T w':=by
 obtain⟨xa,f,xc⟩:=U;have Y:=qh R;have H:=qh<|show a.length=f from M;have X:=qh<|show f<=9223372036854775807 from N;have W:=qh S;change Cl 81 #[.int .i64 (r:Int),.slice xa f xc] T _;clear R M N S;go_enter func81,ntmps81;go_wp2;go_loopw [5] (λi wr=>∃ j:Nat,j<=f/\i=.int .i64 j/\(∀ i h,a[i]?=some h->i<j->¬r<h.m.many)/\Bl T wr) (λi _=>f-(intOf i).toNat)
 case atStart=>exact⟨0,Nat.zero_le _,rfl,λi e _ aa=>absurd aa (Nat.not_lt_zero _),zk⟩
 case round =>
  obtain⟨j,L,rfl,hg,u⟩:=hrel;have V:=qh L;have HG:=qh hg;have l:=qh u;clear L hg u;by_cases k:j<f
  ·have o:=qh k
   have p:j<a.length:=by rw[H.o];exact k
   obtain⟨pb,po,rfl,O,y⟩:=(Y.o.below l.o).off (i:=j) p;obtain⟨h,m⟩:∃ h,a[j]?=some h:=⟨_,List.getElem?_eq_getElem p⟩;obtain⟨c0,c1,c2,c3,c4,c5,Z,c7⟩:=RT.eight y (i:=j) (t:=h) m;have G:=qh m;have B:=qh<|jh8 h wr (W.o h (List.mem_of_getElem? m));have ac:(j:Int)<(f:Int):=Zo;have ek:IntKind.i64.wrap ((j:Int)+1)=(j:Int)+1:=IntWalk.i64_in _ (Zi o X);obtain⟨E,q⟩:=gn h.m.many;rw[<- q] at B;have t:=qh q;clear y m p O k q;go_wp2_with fail
   with_reducible refine B.o.mono ?_
   rintro e w1 ⟨rfl,I⟩;have l:=qk l I;clear I B c0 c1 c2 c3 c4 c5 Z c7;by_cases s:r<E
   ·have J:(r:Int)<(E:Int):=Zo;have z:=qh s;clear s;go_wp2;go_ret;refine⟨?_,l.o⟩;rw[show XP r a=true from List.any_eq_true.2 ⟨h,List.mem_of_getElem? G.o,decide_eq_true (by rw[<- t.o];exact z.o)⟩];rfl
   ·have J:¬((r:Int)<(E:Int)):=Zo;have z:=qh s;clear s;go_wp2;go_roundw
    case rel =>
     refine⟨j+1,Zh o,rfl,λi ad D C=>?_,l.o⟩;by_cases K:i<j
     ·exact HG.o i ad D K
     ·obtain rfl:i=j:=Zo;rw[G.o] at D;obtain rfl:h=ad:=Option.some.inj D;rw[<- t.o];exact z.o
    case measure=>simp[intOf];have:=o.o;omega
  ·have ab:¬((j:Int)<(f:Int)):=Zo;have F:=qh (show j=f by have:=V.o;omega);clear k;go_wp2;go_ret;refine⟨?_,l.o⟩
   rw[show XP r a=false from Bool.eq_false_iff.2 λaa=>by
    obtain⟨h,m,h1⟩:=List.any_eq_true.1 aa;obtain⟨i,C⟩:=List.mem_iff_getElem?.1 m
    exact HG.o i h C (by have:=(List.getElem?_eq_some_iff.1 C).1;have:=H.o;have:=F.o;omega) (of_decide_eq_true h1)]
   rfl
def Xq (o:Int) (Ls:List (List TV)):Bool:=!(decide (o=1) || decide (o=2))&&Ls.any λts=>match ts with
 | []=>false
 | t :: r=>r.any λu=>decide (t.m.many<u.m.many)
structure T8 (w:World) (b o:Nat) (t:TV):Prop where
 eight:w.cell? ⟨b,o,none⟩=some (.bool t.c.t.s)/\w.cell? ⟨b,o+1,none⟩=some (.slice t.c.t.a t.c.t.n t.c.t.c)/\w.cell? ⟨b,o+2,none⟩=some (.bool t.c.l.s)/\w.cell? ⟨b,o+3,none⟩=some (.slice t.c.l.a t.c.l.n t.c.l.c) /\
  w.cell? ⟨b,o+4,none⟩=some (.int .u16 t.m.x)/\w.cell? ⟨b,o+5,none⟩=some (.int .u16 t.m.y)/\w.cell? ⟨b,o+6,none⟩=some (.int .u16 t.m.z)/\w.cell? ⟨b,o+7,none⟩=some (.int .u16 t.m.t)
theorem T8.below {o:Nat} {y:TV} (a:T8 w b o y) (u:Bl w w'):T8 w' b o y:=by
 obtain⟨h,k,l,m,q,r,s,t⟩:=a.eight
 have f:∀ {i:Nat} {v:Value},w.cell? ⟨b,i,none⟩=some v->w'.cell? ⟨b,i,none⟩=some v:=λ{i v} a=>(u.cell (p:=⟨b,i,none⟩) (block_lt_of_cell a)).trans a
 exact⟨f h,f k,f l,f m,f q,f r,f s,f t⟩
theorem grows5 (o:Int) (a:Option Addr) (c:Nat) (l:List (PV × List TV)) (w:World) (hr:RS w a (l.map Prod.fst)) (hx:∀ e∈l,RT w e.1.a e.2/\e.2.length=e.1.n/\e.1.n<=9223372036854775807/\∀ ad∈e.2,ad.m.Small) (M:l.length<=9223372036854775807) :
  Cl 82 #[.int .u8 o,.slice a l.length c] w λe w'=>e=.returned (.bool (Xq o (l.map Prod.snd)))/\Bl w w':=by
 have HR:=qh hr;have HX:=qh hx;have HN:=qh M;obtain⟨n,ab⟩:=gn l.length;rw[<- ab];have U:=qh ab;clear hr hx M ab;by_cases G:o=1\/o=2
 ·have HF:=qh (show Xq o (l.map Prod.snd)=false by rcases G with rfl | rfl <;> rfl)
  rcases G with rfl | rfl
  ·go_enter func82,ntmps82;go_wp2;go_ret;exact⟨by rw[HF.o];rfl,zk⟩
  ·go_enter func82,ntmps82;go_wp2;go_ret;exact⟨by rw[HF.o];rfl,zk⟩
 have aN:(o==1)=false:=beq_eq_false_iff_ne.2 λp=>G (Or.inl p)
 have aO:(o==2)=false:=beq_eq_false_iff_ne.2 λp=>G (Or.inr p)
 have af:=qh (show Xq o (l.map Prod.snd)=(l.map Prod.snd).any λm=>match m with | []=>false | ad :: r=>r.any λE=>decide (ad.m.many<E.m.many) by
  unfold Xq;rw[zo (λp=>G (Or.inl p)),zo (λp=>G (Or.inr p))]
  rfl)
 clear G;go_enter func82,ntmps82;go_wp2;go_loopw [5] (λi wr=>∃ j:Nat,j<=n/\i=.int .i64 j/\(∀ (i:Nat) (e:PV × List TV),l[i]?=some e->i<j->∀ h r,e.2=h :: r->∀ E∈r,¬h.m.many<E.m.many)/\Bl w wr) (λi _=>n-(intOf i).toNat)
 case atStart=>exact⟨0,Nat.zero_le _,rfl,λi e _ p=>absurd p (Nat.not_lt_zero _),zk⟩
 case round =>
  obtain⟨j,hj,rfl,hg,C⟩:=hrel;have HJ:=qh hj;have HG:=qh hg;have f:=qh C;clear hj hg C;by_cases D:j<n
  ·have B:=qh D
   have I:j<l.length:=by rw[<- U.o];exact D
   obtain⟨pb,po,rfl,z⟩:=HR.o.ex (λe=>by rw[List.map_eq_nil_iff] at e;rw[e] at I;simp at I);obtain⟨⟨aH,m⟩,hp⟩:∃ aH,l[j]?=some aH:=⟨_,List.getElem?_eq_getElem I⟩;have hc:=z j aH (by rw[List.getElem?_map,hp];rfl);have ag:=qh hp;obtain⟨k1,k2,k3,k4⟩:=HX.o _ (List.mem_of_getElem? hp);obtain⟨xa,y,xc⟩:=aH;have O:=qh (show ∀ w',Bl w w'->w'.cell? ⟨pb,po+j,none⟩=some (.slice xa y xc) from λw' t=>(t.cell (p:=⟨pb,po+j,none⟩) (block_lt_of_cell hc)).trans hc);have ax:=qh<|show RT w xa m from k1;have ai:=qh<|show m.length=y from k2;have aB:=qh<|show y<=9223372036854775807 from k3;have ah:=qh (show ∀ ad∈m,ad.m.Small from k4);have aL:(j:Int)<(n:Int):=Zo;have ek:IntKind.i64.wrap ((j:Int)+1)=(j:Int)+1:=IntWalk.i64_in _ (Zi HN U);have aq:=qh ek;clear I hp z hc k1 k2 k3 k4 D ek;go_wp2;go_loopw [6] (λi wi=>∃ u:Nat,1<=u/\(u<=y\/u=1)/\i=.int .i64 u/\(∀ h r,m=h :: r->∀ (k:Nat) (E:TV),r[k]?=some E->k+1<u->¬h.m.many<E.m.many)/\Bl w wi) (λi _=>y-(intOf i).toNat)
   case atStart=>exact⟨1,zj,Or.inr rfl,rfl,λh r _ k E _ p=>Zo,f.o⟩
   case round =>
    clear f;obtain⟨u,ak,F,rfl,aj,C⟩:=hrel;have av:=qh ak;have HL:=qh F;have ae:=qh aj;have f:=qh C;obtain⟨wi,ao⟩:=gn wr;rw[<- ao] at f ⊢;clear ak F aj C ao;have F:=O.o wi f.o;have D:=B.o;by_cases J:u<y
    ·have R:=qh J;have aA:=qh (show 0<y by omega)
     have aa:u<m.length:=by rw[ai.o];exact J
     obtain⟨xb,xo,rfl,aG,z⟩:=ax.o.off (i:=u) aa;obtain⟨H,L⟩:∃ ad,m[u]?=some ad:=⟨_,List.getElem?_eq_getElem aa⟩;obtain⟨h,K⟩:∃ ad,m[0]?=some ad:=⟨_,List.getElem?_eq_getElem Zo⟩;have aD:=qh<|show T8 w xb (xo+u*8) H from⟨RT.eight z L⟩;have aC:=qh<|show T8 w xb xo h from⟨RT.eight z K⟩;have az:=qh<|ah.o H (List.mem_of_getElem? L);have ay:=qh<|ah.o h (List.mem_of_getElem? K);have W:=qh L;have V:=qh K;obtain⟨ml,an⟩:=gn ((H.m.many:Nat):Int);obtain⟨m0,am⟩:=gn ((h.m.many:Nat):Int);have T:=qh an;have S:=qh am;have aM:(u:Int)<(y:Int):=Zo;have el:IntKind.i64.wrap ((u:Int)+1)=(u:Int)+1:=IntWalk.i64_in _ (Zh aB);have ar:=qh el;clear aa aG z L K an am J el
     go_upto_region 9 with (fail)
     refine FS.Jd 15 [] (FS.JI [(7,FS.Sp.know (.int .i64 ml)),(14,FS.Sp.know (.int .i64 m0))])
      (λw'=>Bl wi w') Zk Zk Zk
      (FS.Jb (FS.Sp.Jk _ _) (FS.Jb (FS.Sp.Jk _ _) (FS.Jh))) (λ_ _ p t=>p.trans (t.mono p.size)) (zk.drew) ?_
     simp only[zu,zi,ze,zx,zy,zv,zw]
     iterate 7
      refine FS.rdw (λw' q=>by have M:=B.o;have F:=O.o w' (f.o.trans (q.mono f.o.size));have M:=R.o;obtain⟨e0,e1,e2,e3,e4,e5,e6,e7⟩:=(aD.o.below (f.o.trans (q.mono f.o.size))).eight;go_simp;try rfl) ?_
     refine FS.Jc rfl rfl rfl (λw' ac=>?_) ?_
     ·have q:=ac.world;refine FS.Jm (FS.PK (.int .i64 ml)) ?_ (λ_ _ p=>p.post);go_simp;have N:=jh8 H w' az.o;rw[<- T.o] at N;refine N.mono ?_;rintro e aI ⟨rfl,t⟩;exact⟨_,rfl,rfl,t⟩
     rintro _ rfl
     conv=>arg 10;simp only[Act.put,zq0,zq1,zq2]
     iterate 6
      refine FS.rdw (λw' q=>by have M:=B.o;have F:=O.o w' (f.o.trans (q.mono f.o.size));have M:=aA.o;obtain⟨e0,e1,e2,e3,e4,e5,e6,e7⟩:=(aC.o.below (f.o.trans (q.mono f.o.size))).eight;go_simp;try rfl) ?_
     refine FS.Jc rfl rfl rfl (λw' ac=>?_) ?_
     ·have q:=ac.world;refine FS.Jm (FS.PK (.int .i64 m0)) ?_ (λ_ _ p=>p.post);go_simp;have N:=jh8 h w' ay.o;rw[<- S.o] at N;refine N.mono ?_;rintro e aI ⟨rfl,t⟩;exact⟨_,rfl,rfl,t⟩
     rintro _ rfl
     conv=>arg 10;simp only[Act.put,zq0,zq1,zq2]
     refine FS.Jn (λaJ t hF=>?_);clear hF;have f:=qk f t;clear t;have el:=ar.o;by_cases hd:m0<ml
     ·have HD:=qh hd;go_wp2;go_ret;refine⟨?_,f.o⟩
      rw[show Xq o (l.map Prod.snd)=true by
       rw[af.o];refine List.any_eq_true.2 ⟨m,List.mem_map.2 ⟨_,List.mem_of_getElem? ag.o,rfl⟩,?_⟩
       match m,V.o,W.o with
       | E :: r,h0,F =>
        obtain rfl:E=h:=by simpa using h0
        obtain⟨k,rfl⟩:∃ k,u=k+1:=⟨u-1,Zh av⟩;refine List.any_eq_true.2 ⟨H,List.mem_of_getElem? (i:=k) (by simpa using F),decide_eq_true ?_⟩;have p:=HD.o;rw[S.o,T.o] at p
        omega]
      rfl
     ·have HD:=qh hd;go_wp2;go_roundw
      case rel =>
       refine⟨u+1,Zo,Or.inl (Zh R),rfl,λt1 r e k E Z aK=>?_,f.o⟩;by_cases aF:k+1<u
       ·exact ae.o t1 r e k E Z aF
       ·obtain rfl:u=k+1:=Zo;have h0:=V.o;have s:=W.o;rw[e] at h0 s
        obtain rfl:t1=h:=by simpa using h0
        obtain rfl:E=H:=by
         have s:r[k]?=some H:=by simpa using s
         rw[Z] at s;exact Option.some.inj s
        have p:=HD.o;rw[S.o,T.o] at p;omega
      case measure=>simp[intOf];have:=R.o;omega
    ·have aE:¬((u:Int)<(y:Int)):=Zo;have aw:=qh (show y<=u by omega);have ek:=aq.o;clear J;go_wp2;go_roundw
     case rel =>
      refine⟨j+1,Zh B,rfl,λi e X hi h r e1 E hu=>?_,f.o⟩;by_cases Y:i<j
      ·exact HG.o i e X Y h r e1 E hu
      ·obtain rfl:i=j:=Zo;rw[ag.o] at X;obtain rfl:_=e:=Option.some.inj X;obtain⟨k,Z⟩:=List.mem_iff_getElem?.1 hu;refine ae.o h r e1 k E Z ?_;have s:=(List.getElem?_eq_some_iff.1 Z).1;have h2:=ai.o;have e1:m=h :: r:=e1;rw[e1,List.length_cons] at h2;have:=aw.o;omega
     case measure=>simp[intOf];have:=B.o;omega
  ·have aE:¬((j:Int)<(n:Int)):=Zo;have au:=qh (show j=n by have:=HJ.o;omega);clear D;go_wp2;go_ret;refine⟨?_,f.o⟩
   rw[show Xq o (l.map Prod.snd)=false by
    rw[af.o]
    refine Bool.eq_false_iff.2 λp=>?_
    obtain⟨m,ht,s⟩:=List.any_eq_true.1 p;obtain⟨e,X,rfl⟩:=List.mem_map.1 ht;obtain⟨i,hi⟩:=List.mem_iff_getElem?.1 X
    have Y:i<j:=by have:=(List.getElem?_eq_some_iff.1 hi).1;have:=U.o;have:=au.o;omega
    have hG:=HG.o i e hi Y
    match hts:e.2,s,hG with
    | h :: r,s,hG =>
     obtain⟨E,hu,h2⟩:=List.any_eq_true.1 s
     exact hG h r rfl E hu (of_decide_eq_true h2)]
   rfl
def Chk (w:World) (p:PV) (b:Bool):Prop:=∀ w1,Bl w w1->Cl 83 #[p.v] w1 λe w'=>e=.returned (.bool b)/\Bl w1 w'
theorem div_no1 (o:Int) (m:PV) (v:Value) (a:World) (p:2<o):Cl 23 #[.int .u8 o,m.v,v] a λe w'=>e=.returned (.tuple #[.slice none 0 0,.slice none 0 0,.int .i64 1])/\Bl a w':=by
 obtain⟨h,l,k⟩:=m;change Cl 23 #[.int .u8 o,.slice h l k,v] a _;have f:=qh<|Below.refl a.heap.size a;go_enter func23,ntmps23;go_wp2_with fail
 go_step3;go_wp2_with fail
 try rw[Exit.noGoto_ret]
 go_ret3;exact⟨rfl,f.o⟩
theorem div_no2 (o:Int) (p:PV) (v:Value) (k:World) (m:o<=2) (h:Chk k p false):Cl 23 #[.int .u8 o,p.v,v] k λe w'=>e=.returned (.tuple #[.slice none 0 0,.slice none 0 0,.int .i64 1])/\Bl k w':=by
 have a:=qh<|h k zk;have t:¬(2<o):=Zo;obtain⟨q,s,r⟩:=p;change Cl 23 #[.int .u8 o,.slice q s r,v] k _;clear m h;go_enter func23,ntmps23;go_wp2_with fail
 go_step3;go_wp2_with fail
 with_reducible refine a.o.mono ?_
 rintro e u ⟨rfl,f⟩;have l:=qh f;clear f a;go_wp2_with fail
 try rw[Exit.noGoto_ret]
 go_ret3;exact⟨rfl,l.o⟩
theorem div_no3 (o:Int) (I:PV) (a:Option Addr) (F:Nat) (ps:List PV) (p:Nat) (q:World) (H:o<=2) (D:Chk q I true) (E:RS q a ps) (m:ps.length<=1000) (y:p<ps.length)
  (t:∀ i x,i<p->ps[i]?=some x->Chk q x true) (k:∀ x,ps[p]?=some x->Chk q x false):Cl 23 #[.int .u8 o,I.v,.slice a ps.length F] q λe w'=>e=.returned (.tuple #[.slice none 0 0,.slice none 0 0,.int .i64 1])/\Bl q w':=by
 have C:=qh<|D q zk;have l:=qh (λ(r:World) (f:Bl q r)=>con_l a F ps p r (E.below f) m (Nat.le_of_lt y) (λi x G z s h=>t i x G z s (f.trans (h.mono f.size))) (λx z s h=>k x z s (f.trans (h.mono f.size))));rw[decide_eq_true y] at l;have M:¬(2<o):=Zo;obtain⟨n,m⟩:=gn ps.length;rw[<- m] at l ⊢;obtain⟨J,L,K⟩:=I;change Cl 23 #[.int .u8 o,.slice J L K,.slice a n F] q _;clear H D E y t k m;go_enter func23,ntmps23;go_wp2_with fail
 go_step3;go_wp2_with fail
 with_reducible refine C.o.mono ?_
 rintro e r ⟨rfl,f⟩;have u:=qh f;have B:=qh<|l.o r f;clear f C l;go_wp2_with fail
 with_reducible refine B.o.mono ?_
 rintro e s ⟨rfl,f⟩;have u:=qk u f;clear f B;go_wp2_with fail
 try rw[Exit.noGoto_ret]
 go_ret3;exact⟨rfl,u.o⟩
theorem div_no6 (o:Int) (S:PV) (a:Option Addr) (N:Nat) (h:List (PV × List Tm)) (t:Nat) (u:World) (O:o<=2) (J:Chk u S true) (D:RS u a (h.map Prod.fst)) (p:h.length<=1000) (H:t<h.length)
  (C:∀ l∈h,KP u l.1 l.2/\(∀ aa∈l.2,LQ aa.2 900000)/\l.1.n<=1000000) (r:∀ i l,i<t->h[i]?=some l->l.2≠[]) (L:∀ l,h[t]?=some l->l.2=[]):Cl 23 #[.int .u8 o,S.v,.slice a h.length N] u λe w'=>e=.returned (.tuple #[.slice none 0 0,.slice none 0 0,.int .i64 6])/\Bl u w':=by
 have F:=qh<|J u zk
 have y:=qh (λ(k:World) (f:Bl u k)=>con_l a N (h.map Prod.fst) h.length k (D.below f) (by rw[List.length_map];exact p) (by rw[List.length_map];exact zj)
  (λi x Z s M I=>by
   rw[List.getElem?_map] at s;obtain⟨l,K,rfl⟩:=Option.map_eq_some_iff.1 s;obtain⟨z,B,Y⟩:=C l (List.mem_of_getElem? K)
   exact Kh ((z.below f).below I) B Zo)
  (λx s=>by
   have:=(List.getElem?_eq_some_iff.1 s).1;rw[List.length_map] at this
   omega))
 have q:=qh (λ(k:World) (f:Bl u k)=>jhv o a N h t k (D.below f) p H (λl R=>by obtain⟨z,B⟩:=C l R;exact⟨z.below f,B⟩) r L);have X:¬(2<o):=Zo;obtain⟨n,p⟩:=gn h.length;rw[<- p];simp only[List.length_map,<- p] at y q;have W:¬(n<n):=Nat.lt_irrefl _;obtain⟨T,V,U⟩:=S;change Cl 23 #[.int .u8 o,.slice T V U,.slice a n N] u _;clear O J D C H r L p;go_enter func23,ntmps23;go_wp2_with fail
 go_step3;go_wp2_with fail
 with_reducible refine F.o.mono ?_
 rintro e k ⟨rfl,f⟩;have m:=qh f;have E:=qh<|y.o k f;clear f F y;go_wp2_with fail
 with_reducible refine E.o.mono ?_
 rintro e M ⟨rfl,f⟩;have m:=qk m f;have G:=qh<|q.o M m.o;clear f E q;go_wp2_with fail
 with_reducible refine G.o.mono ?_
 rintro e w3 ⟨rfl,f⟩;have m:=qk m f;clear f G;go_wp2_with fail
 try rw[Exit.noGoto_ret]
 go_ret3;exact⟨rfl,m.o⟩
structure DGr (o:Int) (terms degree:Nat) (ts:List TV) (Ls:List (List TV)):Prop where
 n4:Ls.length<=4
 p:Qi terms ts
 tp:XP degree ts=false
 gp:Xq o Ls=true->Ls.length<=3/\XP 3 ts=false
 l:∀ us∈Ls,Qi terms us/\XP degree us=false/\(Xq o Ls=true->XP 2 us=false)
theorem dgreat (o:Int) (m l:Nat) (Y:PV) (H:List TV) (a:Option Addr) (c:Nat) (y:List (PV × List TV)) (T:World) (aw:RT T Y.a H) (ay:H.length=Y.n) (av:Y.n<=9223372036854775807) (ax:∀ aA∈H,aA.m.Small) (hr:RS T a (y.map Prod.fst))
  (hx:∀ e∈y,RT T e.1.a e.2/\e.2.length=e.1.n/\e.1.n<=9223372036854775807/\∀ aA∈e.2,aA.m.Small) (G:y.length<=9223372036854775807) (az:m<=1000) :
  Cl 21 #[.int .u8 o,.int .i64 (m:Int),.int .i64 (l:Int),Y.v,.slice a y.length c] T (BR T (DGr o m l H (y.map Prod.snd))):=by
 have GW:=qh (λ(w1:World) (h:Bl T w1)=>grows5 o a c y w1 (hr.below h) (λe r=>by obtain⟨h1,h2⟩:=hx e r;exact⟨h1.below h,h2⟩) G);obtain⟨pa,Z,pc⟩:=Y;have HR:=qh hr;have HX:=qh hx;have HN:=qh G;have ai:=qh az;have af:=qh<|show RT T pa H from aw;have ah:=qh<|show H.length=Z from ay;have aq:=qh<|show Z<=9223372036854775807 from zm av Ze;have ar:=qh ax;obtain⟨n,am⟩:=gn y.length;obtain⟨gg,aj⟩:=gn (Xq o (y.map Prod.snd));rw[<- am] at GW ⊢;rw[<- aj] at GW;have B:=qh am;have an:=qh aj;have f:=qh<|Below.refl T.heap.size T;change Cl 21 #[.int .u8 o,.int .i64 (m:Int),.int .i64 (l:Int),.slice pa Z pc,.slice a n c] T _;clear hr hx G az aw ay av ax am aj;go_enter func21,ntmps21;by_cases h4:4<n
 ·have aE:(4:Int)<(n:Int):=Zo;go_wp2;go_ret;exact BR.yes f.o
 have aE:¬((4:Int)<(n:Int)):=Zo;have H4:=qh h4;clear h4;obtain⟨V,q⟩:=gn (T.alloc (.cells #[.slice pa Z pc] 23));have u:=bq q (zk.alloc zj _);have BG:=al q;have k:=qh<|YC T.heap.size m 1 [((⟨pa,Z,pc⟩:PV),H)] V rfl (λi e aa=>by match i,aa with | 0,aa=>exact(Option.some.inj aa)▸BG.ce 0) (λe r=>by rw[List.mem_singleton.1 r];exact⟨(af.o.below f.o).below u,ah.o⟩) (by simp) ai.o;have F:=qh q;have t:=qh u;clear q u BG;go_wp2_with fail
 rw[<- F.o];with_reducible refine k.o.mono ?_
 rintro e w1 ⟨b1,rfl,G,h⟩;have f:=qh<|(f.o.trans (t.o.mono f.o.size)).trans (h.mono (f.o.trans (t.o.mono f.o.size)).size);have E:=qh G;clear h G k F t V
 rcases Bool.eq_false_or_eq_true b1 with rfl | rfl
 ·go_wp2;go_ret;exact BR.yes f.o
 have N:=qh<|show Qi m H from E.o rfl _ (List.mem_singleton.2 rfl);clear E;have ao:=qh N.o;clear N;have k:=qh<|jhw l ⟨pa,Z,pc⟩ H w1 (af.o.below f.o) ah.o aq.o ar.o;obtain⟨O,p⟩:=gn (XP l H);rw[<- p] at k;have au:=qh p;clear p;go_wp2_with fail
 with_reducible refine k.o.mono ?_
 rintro e w2 ⟨rfl,h⟩;have f:=qk f h;clear h k
 rcases Bool.eq_false_or_eq_true O with rfl | rfl
 ·go_wp2;go_ret;exact BR.yes f.o
 have k:=qh<|GW.o w2 f.o;go_wp2_with fail
 with_reducible refine k.o.mono ?_
 rintro e w3 ⟨rfl,h⟩;have f:=qk f h;clear h k
 rcases Bool.eq_false_or_eq_true gg with rfl | rfl
 ·by_cases h3:3<n
  ·have aD:(3:Int)<(n:Int):=Zo;go_wp2;go_ret;exact BR.yes f.o
  have aD:¬((3:Int)<(n:Int)):=Zo;have H3:=qh h3;clear h3;have k:=qh<|show Cl 81 #[.int .i64 3,.slice pa Z pc] w3 _ from jhw 3 ⟨pa,Z,pc⟩ H w3 (af.o.below f.o) ah.o aq.o ar.o;obtain⟨O,p⟩:=gn (XP 3 H);rw[<- p] at k;have aC:=qh p;clear p;go_wp2_with fail
  with_reducible refine k.o.mono ?_
  rintro e w4 ⟨rfl,h⟩;have f:=qk f h;clear h k
  rcases Bool.eq_false_or_eq_true O with rfl | rfl
  ·go_wp2;go_ret;exact BR.yes f.o
  go_wp2;go_loopw [11] (λi wr=>∃ j:Nat,j<=n/\i=.int .i64 j/\(∀ (i:Nat) (e:PV × List TV),y[i]?=some e->i<j->Qi m e.2/\XP l e.2=false/\(Xq o (y.map Prod.snd)=true->XP 2 e.2=false))/\Bl T wr) (λi _=>n-(intOf i).toNat)
  case atStart=>exact⟨0,Nat.zero_le _,rfl,λi e _ aa=>absurd aa (Nat.not_lt_zero _),f.o⟩
  case round =>
   clear f;obtain⟨j,hj,rfl,hg,W⟩:=hrel;have HJ:=qh hj;have HG:=qh hg;have f:=qh W;clear hj hg W;by_cases I:j<n
   ·have U:=qh I
    have C:j<y.length:=by rw[<- B.o];exact I
    obtain⟨pb,po,rfl,X⟩:=HR.o.ex (λe=>by rw[List.map_eq_nil_iff] at e;rw[e] at C;simp at C);obtain⟨⟨Y,s⟩,S⟩:∃ Y,y[j]?=some Y:=⟨_,List.getElem?_eq_getElem C⟩;have hc:=X j Y (by rw[List.getElem?_map,S];rfl);have ae:=qh S;obtain⟨k1,k2,k3,k4⟩:=HX.o _ (List.mem_of_getElem? S);obtain⟨D,z,J⟩:=Y;have K:=qh (show ∀ w',Bl T w'->w'.cell? ⟨pb,po+j,none⟩=some (.slice D z J) from λw' h=>(h.cell (p:=⟨pb,po+j,none⟩) (block_lt_of_cell hc)).trans hc);have L:=qh<|show RT T D s from k1;have M:=qh<|show s.length=z from k2;have ab:=qh<|show z<=9223372036854775807 from zm k3 Ze;have ac:=qh (show ∀ aA∈s,aA.m.Small from k4);have aG:(j:Int)<(n:Int):=Zo;have ek:IntKind.i64.wrap ((j:Int)+1)=(j:Int)+1:=IntWalk.i64_in _ (Zi HN B);clear C S X hc k1 k2 k3 k4;have R:=K.o wr f.o;obtain⟨V,q⟩:=gn (wr.alloc (.cells #[.slice D z J] 23));have u:=bq q (zk.alloc zj _);have BG:=al q;have k:=qh<|YC wr.heap.size m 1 [((⟨D,z,J⟩:PV),s)] V rfl (λi e aa=>by match i,aa with | 0,aa=>exact(Option.some.inj aa)▸BG.ce 0) (λe r=>by rw[List.mem_singleton.1 r];exact⟨(L.o.below f.o).below u,M.o⟩) (by simp) ai.o;have F:=qh q;have t:=qh u;clear q u BG;go_wp2_with fail
    rw[<- F.o];with_reducible refine k.o.mono ?_
    rintro e w5 ⟨b5,rfl,G,h⟩;have f:=qh<|(f.o.trans (t.o.mono f.o.size)).trans (h.mono (f.o.trans (t.o.mono f.o.size)).size);have E:=qh G;clear h G k F t V
    rcases Bool.eq_false_or_eq_true b5 with rfl | rfl
    ·go_wp2;go_ret;exact BR.yes f.o
    have N:=qh<|show Qi m s from E.o rfl _ (List.mem_singleton.2 rfl);clear E R;have R:=K.o w5 f.o;have k:=qh<|jhw l ⟨D,z,J⟩ s w5 (L.o.below f.o) M.o ab.o ac.o;obtain⟨O,p⟩:=gn (XP l s);rw[<- p] at k;have ag:=qh p;clear p;go_wp2_with fail
    with_reducible refine k.o.mono ?_
    rintro e w6 ⟨rfl,h⟩;have f:=qk f h;clear h k
    rcases Bool.eq_false_or_eq_true O with rfl | rfl
    ·go_wp2;go_ret;exact BR.yes f.o
    clear R;have k:=qh<|GW.o w6 f.o;go_wp2_with fail
    with_reducible refine k.o.mono ?_
    rintro e w7 ⟨rfl,h⟩;have f:=qk f h;clear h k;have R:=K.o w7 f.o;have k:=qh<|show Cl 81 #[.int .i64 2,.slice D z J] w7 _ from jhw 2 ⟨D,z,J⟩ s w7 (L.o.below f.o) M.o ab.o ac.o;obtain⟨O,p⟩:=gn (XP 2 s);rw[<- p] at k;have aB:=qh p;clear p;go_wp2_with fail
    with_reducible refine k.o.mono ?_
    rintro e w8 ⟨rfl,h⟩;have f:=qk f h;clear h k
    rcases Bool.eq_false_or_eq_true O with rfl | rfl
    ·go_wp2;go_ret;exact BR.yes f.o
    clear R;go_wp2;go_roundw
    case rel =>
     refine⟨j+1,Zh U,rfl,λi e r hi=>?_,f.o⟩;by_cases ak:i<j
     ·exact HG.o i e r ak
     ·obtain rfl:i=j:=Zo;rw[ae.o] at r;obtain rfl:_=e:=Option.some.inj r;exact⟨N.o,ag.o.symm,λhg=>aB.o.symm⟩
    case measure=>simp[intOf];have:=U.o;omega
   ·have aF:¬((j:Int)<(n:Int)):=Zo;have ad:=qh (show j=n by have:=HJ.o;omega);clear I;go_wp2;go_ret;refine BR.no f.o ⟨by rw[List.length_map,<- B.o];have:=H4.o;omega,ao.o,au.o.symm,λhg=>⟨by rw[List.length_map,<- B.o];have:=H3.o;omega,aC.o.symm⟩,λs hu=>?_⟩;obtain⟨e,r,rfl⟩:=List.mem_map.1 hu;obtain⟨i,hi⟩:=List.mem_iff_getElem?.1 r;exact HG.o i e hi (by have:=(List.getElem?_eq_some_iff.1 hi).1;have:=B.o;have:=ad.o;omega)
 ·go_wp2;go_loopw [11] (λi wr=>∃ j:Nat,j<=n/\i=.int .i64 j/\(∀ (i:Nat) (e:PV × List TV),y[i]?=some e->i<j->Qi m e.2/\XP l e.2=false/\(Xq o (y.map Prod.snd)=true->XP 2 e.2=false))/\Bl T wr) (λi _=>n-(intOf i).toNat)
  case atStart=>exact⟨0,Nat.zero_le _,rfl,λi e _ aa=>absurd aa (Nat.not_lt_zero _),f.o⟩
  case round =>
   clear f;obtain⟨j,hj,rfl,hg,W⟩:=hrel;have HJ:=qh hj;have HG:=qh hg;have f:=qh W;clear hj hg W;by_cases I:j<n
   ·have U:=qh I
    have C:j<y.length:=by rw[<- B.o];exact I
    obtain⟨pb,po,rfl,X⟩:=HR.o.ex (λe=>by rw[List.map_eq_nil_iff] at e;rw[e] at C;simp at C);obtain⟨⟨Y,s⟩,S⟩:∃ Y,y[j]?=some Y:=⟨_,List.getElem?_eq_getElem C⟩;have hc:=X j Y (by rw[List.getElem?_map,S];rfl);have ae:=qh S;obtain⟨k1,k2,k3,k4⟩:=HX.o _ (List.mem_of_getElem? S);obtain⟨D,z,J⟩:=Y;have K:=qh (show ∀ w',Bl T w'->w'.cell? ⟨pb,po+j,none⟩=some (.slice D z J) from λw' h=>(h.cell (p:=⟨pb,po+j,none⟩) (block_lt_of_cell hc)).trans hc);have L:=qh<|show RT T D s from k1;have M:=qh<|show s.length=z from k2;have ab:=qh<|show z<=9223372036854775807 from zm k3 Ze;have ac:=qh (show ∀ aA∈s,aA.m.Small from k4);have aG:(j:Int)<(n:Int):=Zo;have ek:IntKind.i64.wrap ((j:Int)+1)=(j:Int)+1:=IntWalk.i64_in _ (Zi HN B);clear C S X hc k1 k2 k3 k4;have R:=K.o wr f.o;obtain⟨V,q⟩:=gn (wr.alloc (.cells #[.slice D z J] 23));have u:=bq q (zk.alloc zj _);have BG:=al q;have k:=qh<|YC wr.heap.size m 1 [((⟨D,z,J⟩:PV),s)] V rfl (λi e aa=>by match i,aa with | 0,aa=>exact(Option.some.inj aa)▸BG.ce 0) (λe r=>by rw[List.mem_singleton.1 r];exact⟨(L.o.below f.o).below u,M.o⟩) (by simp) ai.o;have F:=qh q;have t:=qh u;clear q u BG;go_wp2_with fail
    rw[<- F.o];with_reducible refine k.o.mono ?_
    rintro e w5 ⟨b5,rfl,G,h⟩;have f:=qh<|(f.o.trans (t.o.mono f.o.size)).trans (h.mono (f.o.trans (t.o.mono f.o.size)).size);have E:=qh G;clear h G k F t V
    rcases Bool.eq_false_or_eq_true b5 with rfl | rfl
    ·go_wp2;go_ret;exact BR.yes f.o
    have N:=qh<|show Qi m s from E.o rfl _ (List.mem_singleton.2 rfl);clear E R;have R:=K.o w5 f.o;have k:=qh<|jhw l ⟨D,z,J⟩ s w5 (L.o.below f.o) M.o ab.o ac.o;obtain⟨O,p⟩:=gn (XP l s);rw[<- p] at k;have ag:=qh p;clear p;go_wp2_with fail
    with_reducible refine k.o.mono ?_
    rintro e w6 ⟨rfl,h⟩;have f:=qk f h;clear h k
    rcases Bool.eq_false_or_eq_true O with rfl | rfl
    ·go_wp2;go_ret;exact BR.yes f.o
    clear R;have k:=qh<|GW.o w6 f.o;go_wp2_with fail
    with_reducible refine k.o.mono ?_
    rintro e w7 ⟨rfl,h⟩;have f:=qk f h;clear h k;go_wp2;go_roundw
    case rel =>
     refine⟨j+1,Zh U,rfl,λi e r hi=>?_,f.o⟩;by_cases ak:i<j
     ·exact HG.o i e r ak
     ·obtain rfl:i=j:=Zo;rw[ae.o] at r;obtain rfl:_=e:=Option.some.inj r;exact⟨N.o,ag.o.symm,λhg=>absurd (an.o.trans hg) Ze⟩
    case measure=>simp[intOf];have:=U.o;omega
   ·have aF:¬((j:Int)<(n:Int)):=Zo;have ad:=qh (show j=n by have:=HJ.o;omega);clear I;go_wp2;go_ret;refine BR.no f.o ⟨by rw[List.length_map,<- B.o];have:=H4.o;omega,ao.o,au.o.symm,λhg=>absurd (an.o.trans hg) Ze,λs hu=>?_⟩;obtain⟨e,r,rfl⟩:=List.mem_map.1 hu;obtain⟨i,hi⟩:=List.mem_iff_getElem?.1 r;exact HG.o i e hi (by have:=(List.getElem?_eq_some_iff.1 hi).1;have:=B.o;have:=ad.o;omega)
structure SA (w:World) (x:PV) (P:List Tm) (ok:Bool) (n k e:Nat):Prop where
 h:(ok=true/\KP w x P)\/(ok=false/\BP w x/\P=[])
 b:PC P n k e
 le:x.n<=1000000
theorem SA.below {ok:Bool} {k:Nat} (a:SA w x P ok n k e) (f:Bl w w'):SA w' x P ok n k e :=
 ⟨a.h.imp (λa=>⟨a.1,a.2.below f⟩) (λa=>⟨a.1,a.2.1.below f,a.2.2⟩),a.b,a.le⟩
theorem SA.ap {ok:Bool} {k:Nat} (a:SA w x P ok n k e):AP w x P:=a.h.elim (λa=>a.2.any) (λa=>Or.inr a.2)
def LA (w:World) (x0 x1 x2 x3:FV) (l:Nat->Rat) (ok:Bool) (kl:Nat):Prop :=
 (ok=true/\K4 w x0 x1 x2 x3 l/\∀ i,LQ (l i) kl)\/(ok=false/\∃ oks:Nat->Bool,B4 w x0 x1 x2 x3 oks/\∃ i,i<4/\oks i=false)
def Zq (x:FV):Prop:=∃ a c b d,x=⟨⟨false,a,0,c⟩,⟨false,b,0,d⟩⟩
def ZqW (_:World) (x:FV):Prop:=Zq x
theorem ZqW.z {a:FV} (f:ZqW w a):Zq a:=f
end Pol
end Go.Proofs.YthacfgmdihcffaaGreatDoor
