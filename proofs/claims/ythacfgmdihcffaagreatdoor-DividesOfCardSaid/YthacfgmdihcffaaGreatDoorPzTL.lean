/-
  The document's answer for fracs: Add, Sub, Mul, Cmp.
-/
import Derived.Test.YthacfgmdihcffaaGreatDoorPzTK
set_option linter.unusedSimpArgs false
set_option linter.unusedVariables false
set_option maxHeartbeats 16000000
set_option maxRecDepth 100000
open Go.Proofs.Tryz
namespace Go.Proofs.YthacfgmdihcffaaGreatDoor
namespace Limb
open Go.RowKit Go.Sort Go.FreshH
variable {V w:World} {b hi lo n:Nat}
theorem one_iff (d:Bool) (n:Nat) (o:Nat->Int) (j:okN d n o) (g:∀ i,i<n->0<=o i/\o i<=4294967295):Jp d n o=1↔d=false/\n=1/\o 0=1:=by
 obtain⟨a,f,c⟩:=QD d n o j g;constructor
 ·intro e;rw[e] at a f c
  have k:Ja (Int.natAbs 1)=1:=by rw[show Int.natAbs 1=1 from rfl,X6 Ze,show 1/1000000000=0 from rfl,Jw]
  have h:n=1:=Zo;subst h;refine⟨by rw[<- a];rfl,rfl,?_⟩;rw[c 0 Zo];show((dg 1 0:Nat):Int)=1;rw[Yf];rfl
 ·rintro⟨rfl,rfl,e⟩;unfold Jp;rw[if_pos j,if_neg (by simp)];show(0:Int)+o 0*((pw 0:Nat):Int)=1;rw[e,Qj];rfl
def K8 (w:World) (p q:Int) (e:Ending) (w':World):Prop :=
 ∃ a1 c1 a2 c2,e=.returned (J4 (decide (p<0)) a1 (Ja p.natAbs) c1 (decide (q<0)) a2 (Ja q.natAbs) c2)/\Own 128 w' w.heap.size a1 (Ja p.natAbs) c1 (dgi p.natAbs) /\
  Own 128 w' w.heap.size a2 (Ja q.natAbs) c2 (dgi q.natAbs)/\Bl w w'
open Classical in
theorem ZV (k:Bool) (l:Option Addr) (a c1:Nat) (j:Nat->Int) (q:World) (t:Rd q l a j) (E:a<=100000000) (C:a<=c1) (x:okN k a j) :
  Cl 190 #[Jv k l a c1] q λe A=>e=.returned (.bool (decide (Jp k a j=1)))/\Bl q A:=by
 have c:=qh<|one_iff k a j x t.rng;have g:=qh<|Bxs.new (q) 30 [.bool k,.slice l a c1];obtain⟨v,o⟩:=gn (q.alloc (.cells #[.bool k,.slice l a c1] 30));have r:=qh<|bq o (zk.alloc zj _);have B:=qh (show q.heap.size+1<=v.heap.size by rw[o];simp only[World.size_alloc];omega);have g:=qh (show Bxs v (q.heap.size) 30 [.bool k,.slice l a c1] by have s:=g.o;rw[o];exact s);have m:=qh o;clear o;have z:=qh<|t.below r.o;clear t x
 cases k with
 | true =>
  rw[zo (λs=>by cases (c.o.1 s).1)];clear c;go_enter func190,ntmps190
  go_upto_region 1 with (fail)
  rw[show q.alloc (.cells #[.bool true,.slice l a c1] 30)=v from m.o.symm];clear m;obtain⟨d,f,h,i⟩:=g.o.d2;go_wp2_with fail
  clear d f h i;go_ret
  exact⟨rfl,r.o⟩
 | false =>
  by_cases u:a=1
  ·subst u;obtain⟨b,off,rfl,p⟩:=z.o.cells Zo;have p:=p 0 Zo;rw[show decide (Jp false 1 j=1)=decide (j 0=1) from decide_eq_decide.2 ⟨λs=>(c.o.1 s).2.2,λs=>c.o.2 ⟨rfl,rfl,s⟩⟩];clear c;change _=some (Value.int .u32 (j 0)) at p;obtain⟨F,y⟩:=gn (j 0);rw[<- y] at p ⊢;clear y;simp only[Nat.add_zero] at p;go_enter func190,ntmps190
   go_upto_region 1 with (fail)
   rw[show q.alloc (.cells #[.bool false,.slice (some ⟨b,off,none⟩) 1 c1] 30)=v from m.o.symm];clear m;obtain⟨d,f,h,i⟩:=g.o.d2;go_wp2_with fail
   clear d f h i;go_ret;exact⟨by first | rfl | (congr 1;simp),r.o⟩
  ·rw[zo (λs=>u (c.o.1 s).2.1)];clear c;have D:¬(a:Int)=1:=Zo;clear u;go_enter func190,ntmps190
   go_upto_region 1 with (fail)
   rw[show q.alloc (.cells #[.bool false,.slice l a c1] 30)=v from m.o.symm];clear m;obtain⟨d,f,h,i⟩:=g.o.d2;go_wp2_with fail
   clear d f h i;go_ret;exact⟨rfl,r.o⟩
open Classical in
theorem Xf (t:Bool) (E:Option Addr) (r c1:Nat) (u:Nat->Int) (i:Bool) (y:Option Addr) (g c2:Nat) (q:Nat->Int) (R:World)
  (v:Rd R E r u) (ac:r<=5000000) (P:r<=c1) (G:Rd R y g q) (ad:g<=5000000) (F:g<=c2) :
  Cl 149 #[J4 t E r c1 i y g c2] R λe d=>e=.returned (.bool (decide (okF t r u i g q)))/\Bl R d:=by
 have h:=qh<|Bxs.new R 32 [.bool t,.slice E r c1,.bool i,.slice y g c2];obtain⟨O,M⟩:=gn (R.alloc (.cells #[.bool t,.slice E r c1,.bool i,.slice y g c2] 32));have f:=qh<|bq M (zk.alloc zj _);rw[<- M] at h;have L:=qh M;have a:=qh<|Below.refl O.heap.size O;have x:=qh (λ(d:World) (c:Bl O d)=>Xz t E r c1 u d (v.below (f.o.trans (c.mono f.o.size))) Zo);have z:=qh (λ(d:World) (c:Bl O d)=>Xz i y g c2 q d (G.below (f.o.trans (c.mono f.o.size))) Zo);have T:=qh (λ(d:World) (c:Bl O d)=>K6 i y g c2 q d (G.below (f.o.trans (c.mono f.o.size))) Zo F);have Y:=qh (λ(d:World) (c:Bl O d)=>jao t E r c1 u i y g c2 q d (v.below (f.o.trans (c.mono f.o.size))) Zo P (G.below (f.o.trans (c.mono f.o.size))) Zo F)
 have Z:=qh (show Ja (Int.gcd (Jp t r u) (Jp i g q))<=10000000 from by
  obtain⟨_,_,_,l1,_⟩:=Xw t E r c1 u R v Zo P;obtain⟨_,_,_,l2,_⟩:=Xw i y g c2 q R G Zo F;have:=Vb (Jp t r u) (Jp i g q)
  omega)
 have N:=qh (λ(d:World) (c:Bl O d)=>G.below (f.o.trans (c.mono f.o.size)));clear v G M;by_cases B:okN t r u
 ·rw[decide_eq_true B] at x;by_cases C:okN i g q
  ·rw[decide_eq_true C] at z;obtain⟨cs,A⟩:=gn (Js (Jp i g q) 0);rw[<- A] at T;by_cases H:0<Jp i g q
   ·have ab:decide (0<cs)=true:=by rw[A,JS H];rfl
    obtain⟨X,J⟩:=gn ((Int.gcd (Jp t r u) (Jp i g q):Nat):Int);rw[<- J] at Y;have aa:=qh (show Ja X.natAbs<=10000000 by rw[J,Int.natAbs_natCast];exact Z.o);have s:=qh<|ji0 t r u i g q B C H;rw[<- J] at s;have S:=qh (λ(d:World) (c:Bl O d)=>ZV i y g c2 q d (N.o d c) Zo F C)
    have K:=qh (show(decide (Jp i g q=1)=true/\decide (okF t r u i g q)=true)\/decide (Jp i g q=1)=false by
     by_cases v:Jp i g q=1
     ·exact Or.inl ⟨decide_eq_true v,by rw[s.o,J,v];exact decide_eq_true (by rw[Int.gcd_one_right];rfl)⟩
     ·exact Or.inr (zo v))
    obtain⟨dv,Q⟩:=gn (decide (Jp i g q=1));rw[<- Q] at S K;clear Q J A B C H N;go_enter func149,ntmps149
    go_upto_region 1 with (fail)
    rw[<- L.o];obtain⟨j,k,l,m,o,p⟩:=Jg h.o;go_wp2_with fail
    refine(x.o _ a.o).mono ?_;rintro e d ⟨rfl,c⟩;have a:=qk a c;clear c j k l m o p;obtain⟨j,k,l,m,o,p⟩:=Jg (h.o.below a.o h.o.lt);obtain⟨D,rfl⟩:=gn d;go_wp2_with fail
    refine(z.o _ a.o).mono ?_;rintro e d ⟨rfl,c⟩;have a:=qk a c;clear c j k l m o p;obtain⟨j,k,l,m,o,p⟩:=Jg (h.o.below a.o h.o.lt);obtain⟨D,rfl⟩:=gn d;go_wp2_with fail
    refine(T.o _ a.o).mono ?_;rintro e d ⟨rfl,c⟩;have a:=qk a c;clear c j k l m o p;obtain⟨j,k,l,m,o,p⟩:=Jg (h.o.below a.o h.o.lt);obtain⟨D,rfl⟩:=gn d;go_wp2_with fail
    refine(S.o _ a.o).mono ?_;rintro e d ⟨rfl,c⟩;have a:=qk a c;clear c S j k l m o p
    rcases K.o with ⟨v,hr⟩ | v
    ·subst v;have s:=qh hr;clear hr K;go_wp2;go_ret;exact⟨by rw[s.o];rfl,f.o.trans (a.o.mono f.o.size)⟩
    ·subst v;clear K;obtain⟨j,k,l,m,o,p⟩:=Jg (h.o.below a.o h.o.lt);go_wp2_with fail
     refine(Y.o _ a.o).mono ?_;rintro e w2 ⟨ae,xc,rfl,W,c⟩;have U:=qh<|ZV (decide (X<0)) ae (Ja X.natAbs) xc (dgi X.natAbs) w2 W.rd (Zh aa) W.le (JY X);rw[Jl] at U;have a:=qk a c;clear c W j k l m o p;go_wp2_with fail
     refine U.o.mono ?_;rintro e w3 ⟨rfl,c⟩;have a:=qk a c;clear c U;go_wp2;go_ret;exact⟨by rw[s.o];first | rfl | (congr 1;simp),f.o.trans (a.o.mono f.o.size)⟩
   ·have ab:decide (0<cs)=false:=by
     rw[A];refine zo ?_
     rcases Int.lt_trichotomy (Jp i g q) 0 with I | I | I
     ·rw[JK I];omega
     ·rw[J7 I];omega
     ·exact absurd I H
    have s:=qh (show decide (okF t r u i g q)=false from zo λI=>H I.2.2.1);clear A B C H;go_enter func149,ntmps149
    go_upto_region 1 with (fail)
    rw[<- L.o];obtain⟨j,k,l,m,o,p⟩:=Jg h.o;go_wp2_with fail
    refine(x.o _ a.o).mono ?_;rintro e d ⟨rfl,c⟩;have a:=qk a c;clear c j k l m o p;obtain⟨j,k,l,m,o,p⟩:=Jg (h.o.below a.o h.o.lt);obtain⟨D,rfl⟩:=gn d;go_wp2_with fail
    refine(z.o _ a.o).mono ?_;rintro e d ⟨rfl,c⟩;have a:=qk a c;clear c j k l m o p;obtain⟨j,k,l,m,o,p⟩:=Jg (h.o.below a.o h.o.lt);obtain⟨D,rfl⟩:=gn d;go_wp2_with fail
    refine(T.o _ a.o).mono ?_;rintro e d ⟨rfl,c⟩;have a:=qk a c;clear c j k l m o p;obtain⟨j,k,l,m,o,p⟩:=Jg (h.o.below a.o h.o.lt);obtain⟨D,rfl⟩:=gn d;go_wp2;go_ret;exact⟨by rw[s.o];rfl,f.o.trans (a.o.mono f.o.size)⟩
  ·rw[zo C] at z;have s:=qh (show decide (okF t r u i g q)=false from zo λI=>C I.2.1);clear B C;go_enter func149,ntmps149
   go_upto_region 1 with (fail)
   rw[<- L.o];obtain⟨j,k,l,m,o,p⟩:=Jg h.o;go_wp2_with fail
   refine(x.o _ a.o).mono ?_;rintro e d ⟨rfl,c⟩;have a:=qk a c;clear c j k l m o p;obtain⟨j,k,l,m,o,p⟩:=Jg (h.o.below a.o h.o.lt);obtain⟨D,rfl⟩:=gn d;go_wp2_with fail
   refine(z.o _ a.o).mono ?_;rintro e d ⟨rfl,c⟩;have a:=qk a c;clear c j k l m o p;obtain⟨j,k,l,m,o,p⟩:=Jg (h.o.below a.o h.o.lt);obtain⟨D,rfl⟩:=gn d;go_wp2;go_ret;exact⟨by rw[s.o];rfl,f.o.trans (a.o.mono f.o.size)⟩
 ·rw[zo B] at x;have s:=qh (show decide (okF t r u i g q)=false from zo λI=>B I.1);clear B;go_enter func149,ntmps149
  go_upto_region 1 with (fail)
  rw[<- L.o];obtain⟨j,k,l,m,o,p⟩:=Jg h.o;go_wp2_with fail
  refine(x.o _ a.o).mono ?_;rintro e d ⟨rfl,c⟩;have a:=qk a c;clear c j k l m o p;obtain⟨j,k,l,m,o,p⟩:=Jg (h.o.below a.o h.o.lt);obtain⟨D,rfl⟩:=gn d;go_wp2;go_ret;exact⟨by rw[s.o];rfl,f.o.trans (a.o.mono f.o.size)⟩
open Classical in
theorem jf0 (n:Int) (p:World) (t:-9223372036854775808<=n) (u:n<=9223372036854775807) :
  Cl 93 #[.int .i64 n] p (K8 p n 1):=by
 obtain⟨one,a⟩:=gn (1:Int);have r:=qh (λ(c:World)=>Vp n c t u);have s:=qh (show ∀ c,Cl 153 #[.int .i64 1] c (VK c one) from λc=>by rw[a];exact Vp 1 c Zo Zo);rw[<- a];have i:=qh<|Bxs.new p 32 zFv;have f:=qh<|show Bl p (p.alloc (.cells zFv.toArray 32)) from zk.alloc zj _;obtain⟨K,j⟩:=gn (p.alloc (.cells zFv.toArray 32));rw[<- j] at i;rw[<- j] at f;have v:=qh j;clear t u a j;go_enter func93,ntmps93
 go_upto_region 1 with (fail)
 rw[<- v.o];go_wp2_with fail
 refine(r.o _).mono ?_;rintro e C ⟨x,z,rfl,m,l⟩;have g:=qh m;have d:=qh l;clear m l;go_wp2_with fail
 refine(s.o _).mono ?_;rintro e D ⟨y,d2,rfl,o,h⟩;have g:=qh<|g.o.below h;have q:=qh<|o.mono d.o.size;have d:=qk d h;have k:=qh<|i.o.below d.o i.o.lt;clear o h;obtain⟨E,F,G,H,I,J⟩:=Jg k.o;go_wp2_with fail
 have B:=i.o.lt;have A:=f.o.trans (d.o.mono f.o.size);refine bodyPost_ret (Je rfl _ _ _ _ _ _ _ rfl ((((k.o.put 0 _).put 1 _).put 2 _).put 3 _) underlying32 rfl Zk) rfl ⟨x,z,y,d2,rfl,?_,?_,?_⟩
 ·exact((((g.o.oz).oz).oz).oz).mono Zo
 ·exact((((q.o.oz).oz).oz).oz).mono Zo
 ·exact(((A.sc).sc).sc).sc
open Classical in
theorem rfit_ok (h:Bool) (f:Option Addr) (a c1:Nat) (l:Nat->Int) (i:Bool) (g:Option Addr) (c c2:Nat) (m:Nat->Int) (s:World) (k:Nat) (ab:k<=s.heap.size)
  (v:Rd s f a l) (R:a<=5000000) (B:a<=c1) (O:0<a->∀ z,f=some z->z.block<k) (x:Rd s g c m) (S:c<=5000000) (C:c<=c2) (P:0<c->∀ z,g=some z->z.block<k) (y:okF h a l i c m) :
  Cl 151 #[J4 h f a c1 i g c c2] s (jbe s k (Jp h a l) (Jp i c m)):=by
 have D:=qh (λ(T:World) (Q:Bl s T)=>Xf h f a c1 l i g c c2 m T (v.below Q) R B (x.below Q) S C);rw[decide_eq_true y] at D;obtain⟨H,I,J⟩:=QD h a l y.1 v.rng;obtain⟨K,L,M⟩:=QD i c m y.2.1 x.rng
 generalize Jp h a l=z1 at H I J ⊢
 generalize Jp i c m=z2 at K L M ⊢
 have u:=qh<|And.intro (And.intro v O) (And.intro x P);have d:=qh<|And.intro (And.intro H (And.intro I J)) (And.intro K (And.intro L M));clear y v x O P H I J K L M;have t:=qh<|(Bxs.new s 32 [.bool h,.slice f a c1,.bool i,.slice g c c2]).alloc (.cells zFv.toArray 32);have o:=qh<|Bxs.new (s.alloc (.cells #[.bool h,.slice f a c1,.bool i,.slice g c c2] 32)) 32 zFv;obtain⟨ad,q⟩:=gn ((s.alloc (.cells #[.bool h,.slice f a c1,.bool i,.slice g c c2] 32)).alloc (.cells zFv.toArray 32));have p:=qh<|bq q ((zk.alloc zj _).alloc (by simp) _);rw[<- q] at t;rw[<- q,World.size_alloc] at o;have HW:=qh q;clear q;go_enter func151,ntmps151
 go_upto_region 1 with (fail)
 rw[<- HW.o];obtain⟨W,X,Y,Z,x4,x5⟩:=Jg t.o;go_wp2_with fail
 refine(D.o _ p.o).mono ?_;rintro e U ⟨rfl,j⟩;have GB:=qh j;have N:=qh<|t.o.bl j;have A:=qh<|o.o.bl j;clear j D W X Y Z x4 x5;obtain⟨W,X,Y,Z,x4,x5⟩:=Jg N.o;obtain⟨y0,y1,y2,y3,y4,y5⟩:=Jg A.o;go_wp2_with fail
 have ac:=t.o.lt;have aa:=o.o.lt;have F:=p.o.trans (GB.o.mono p.o.size);refine bodyPost_ret (Je rfl _ _ _ _ _ _ _ rfl ((((A.o.put 0 _).put 1 _).put 2 _).put 3 _) underlying32 rfl Zk) rfl ⟨f,c1,g,c2,?_,?_,?_,?_,?_,?_⟩
 ·rw[d.o.1.1,d.o.1.2.1,d.o.2.1,d.o.2.2.1];rfl
 ·rw[d.o.1.2.1];have r:RdS U k (s.heap.size+2) f a (dgi z1.natAbs):=⟨(u.o.1.1.congr d.o.1.2.2).below F,λE z G=>Or.inl (u.o.1.2 E z G)⟩;exact((((r.sz).sz).sz).sz).up Zo
 ·rw[d.o.1.2.1];exact B
 ·rw[d.o.2.2.1];have r:RdS U k (s.heap.size+2) g c (dgi z2.natAbs):=⟨(u.o.2.1.congr d.o.2.2.2).below F,λE z G=>Or.inl (u.o.2.2 E z G)⟩;exact((((r.sz).sz).sz).sz).up Zo
 ·rw[d.o.2.2.1];exact C
 ·exact(((F.sc).sc).sc).sc
open Classical in
theorem rfit_not (k:Bool) (i:Option Addr) (a c1:Nat) (D:Nat->Int) (l:Bool) (j:Option Addr) (c c2:Nat) (E:Nat->Int) (r:World) (z:Nat)
  (G:Rd r i a D) (M:a<=5000000) (J:a<=c1) (H:Rd r j c E) (N:c<=5000000) (K:c<=c2) (L:¬okF k a D l c E) :
  Cl 151 #[J4 k i a c1 l j c c2] r (jbe r z 0 1):=by
 have A:=qh (λ(d:World) (I:Bl r d)=>Xf k i a c1 D l j c c2 E d (G.below I) M J (H.below I) N K);rw[zo L] at A;obtain⟨one,f⟩:=gn (1:Int);obtain⟨O,g⟩:=gn (0:Int);have C:=qh (λ(d:World)=>jf0 0 d Zo Zo);rw[<- f,<- g];have C:=qh (show ∀ d,Cl 93 #[.int .i64 0] d (K8 d O one) from λd=>by rw[f,g];exact C.o d);clear L G H f g;have B:=qh<|(Bxs.new r 32 [.bool k,.slice i a c1,.bool l,.slice j c c2]).alloc (.cells zFv.toArray 32);have h:=qh<|Bxs.new (r.alloc (.cells #[.bool k,.slice i a c1,.bool l,.slice j c c2] 32)) 32 zFv;obtain⟨ab,p⟩:=gn ((r.alloc (.cells #[.bool k,.slice i a c1,.bool l,.slice j c c2] 32)).alloc (.cells zFv.toArray 32));have o:=qh<|bq p ((zk.alloc zj _).alloc (by simp) _);rw[<- p] at B;rw[<- p,World.size_alloc] at h;have P:=qh p;clear p;go_enter func151,ntmps151
 go_upto_region 1 with (fail)
 rw[<- P.o];obtain⟨X,Y,Z,x3,x4,x5⟩:=Jg B.o;go_wp2_with fail
 refine(A.o _ o.o).mono ?_;rintro e W ⟨rfl,u⟩;have m:=qh u;clear u A X Y Z x3 x4 x5;go_wp2_with fail
 refine(C.o W).mono ?_;rintro e w2 ⟨T,Q,U,d2,rfl,x,y,v⟩;have s:=qh<|And.intro x y;have q:=m.o.size;have m:=qk m v;have t:=qh<|h.o.below m.o h.o.lt;have F:=qh q;clear x y v q;obtain⟨y0,y1,y2,y3,y4,y5⟩:=Jg t.o;go_wp2_with fail
 have aa:=B.o.lt;have S:=h.o.lt;have q:=F.o;have R:=o.o.trans (m.o.mono o.o.size);refine bodyPost_ret (Je rfl _ _ _ _ _ _ _ rfl ((((t.o.put 0 _).put 1 _).put 2 _).put 3 _) underlying32 rfl Zk) rfl ⟨T,Q,U,d2,rfl,?_,s.o.1.le,?_,s.o.2.le,?_⟩
 ·exact(((((s.o.1.oz).oz).oz).oz).rdS z r.heap.size Zo)
 ·exact(((((s.o.2.oz).oz).oz).oz).rdS z r.heap.size Zo)
 ·exact(((R.sc).sc).sc).sc
theorem X9 (h:Bool) (j:Option Addr) (a c1:Nat) (f:Nat->Int) (i:Bool) (k:Option Addr) (c c2:Nat) (g:Nat->Int) (r:World) (d:Nat) (u:d<=r.heap.size)
  (s:Rd r j a f) (p:a<=5000000) (m:a<=c1) (z:0<a->∀ v,j=some v->v.block<d) (t:Rd r k c g) (q:c<=5000000) (o:c<=c2) (A:0<c->∀ v,k=some v->v.block<d) :
  Cl 151 #[J4 h j a c1 i k c c2] r (jbe r d (Xv h a f i c g).num ((Xv h a f i c g).den:Int)):=by
 by_cases l:okF h a f i c g
 ·obtain⟨x,y⟩:=XY l;rw[x,y];exact rfit_ok h j a c1 f i k c c2 g r d u s p m z t q o A l
 ·rw[jaj l];exact rfit_not h j a c1 f i k c c2 g r d s p m t q o l
def Sin (lo hi:Nat) (w V:World):Prop:=∀ b,(b<lo\/hi<=b)->V.heap[b]?=w.heap[b]?
theorem Sin.refl (c a:Nat) (d:World):Sin c a d d:=λ_ _=>rfl
theorem Sin.set (c:Sin lo hi w V) {p:Addr} (d:lo<=p.block) (f:p.block<hi) (v:Value):Sin lo hi w (V.setCell p v):=λb a =>
 (Below.heap_setCell _ _ _ _ Zo).trans (c b a)
theorem Sin.sz (f:Sin lo hi w V) {d:Addr} {v:Value} (a:lo<=d.block:=by dsimp only;omega) (c:d.block<hi:=by dsimp only;omega):Sin lo hi w (V.setCell d v):=f.set a c v
theorem RdS.sin {a:Option Addr} {o:Nat->Int} (f:RdS w lo hi a n o) (h:Sin lo hi w V):RdS V lo hi a n o:=by
 refine⟨⟨λd=>?_,f.rd.rng⟩,f.far⟩;obtain⟨b,off,c,g⟩:=f.rd.cells d;exact⟨b,off,c,λi hi=>(World.cell?_of_block (h b (f.far d _ c))).trans (g i hi)⟩
theorem Q7.sin {d f:Int} {g:Option Addr × Nat × Option Addr × Nat} (c:Q7 w lo hi d f g) (a:Sin lo hi w V):Q7 V lo hi d f g:=⟨c.r1.sin a,c.c1,c.r2.sin a,c.c2⟩
theorem low_tl (c a f d:Int) (l:a≠0) (k:(a<0/\f = -c/\d = -a)\/(¬a<0/\f=c/\d=a)) :
  0<d/\((Int.gcd f d:Nat):Int)≠0/\f/((Int.gcd f d:Nat):Int)=(Rat.divInt c a).num/\d/((Int.gcd f d:Nat):Int)=((Rat.divInt c a).den:Int)/\(d=1->(Rat.divInt c a).num=f/\((Rat.divInt c a).den:Int)=d):=by
 have j:0<d:=Zo
 have e:Rat.divInt f d=Rat.divInt c a:=by
  rcases k with ⟨_,rfl,rfl⟩ | ⟨_,rfl,rfl⟩
  ·exact Rat.neg_divInt_neg _ _
  ·rfl
 have g:=Ut f d Zo;have h:=Uu f d Zo;have i:=jiq f d Zo;rw[if_neg Zo] at g h i;rw[e] at g h;refine⟨j,i,g,h,λk=>?_⟩;rw[<- e];exact VH j (by rw[k];exact Int.gcd_one_right _)
open Classical in
theorem Kn (t m:Int) (a1 X:Option Addr) (c1 c2:Nat) (S:World) (h1:Rd S a1 (Ja t.natAbs) (dgi t.natAbs)) (aK:Ja t.natAbs<=4000000) (aT:Ja t.natAbs<=c1) (h2:Rd S X (Ja m.natAbs) (dgi m.natAbs)) (aL:Ja m.natAbs<=4000000) (aU:Ja m.natAbs<=c2) (hz:m≠0) :
  Cl 192 #[Jv (decide (t<0)) a1 (Ja t.natAbs) c1,Jv (decide (m<0)) X (Ja m.natAbs) c2] S (K8 S (Rat.divInt t m).num ((Rat.divInt t m).den:Int)):=by
 have aH:∀ {a:Option Addr} {n:Nat} {o:Nat->Int},Rd S a n o->0<n->∀ a3,a=some a3->a3.block<S.heap.size:=λaw h0 a3 hp=>by
  obtain⟨b,off,e,hc⟩:=aw.cells h0
  rw[e] at hp;cases hp
  exact block_lt_of_cell (hc 0 h0)
 obtain⟨bf,hP⟩:=gn ((Rat.divInt t m).num);obtain⟨bg,hQ⟩:=gn ((Rat.divInt t m).den:Int);rw[<- hP,<- hQ];have aJ:=qh<|And.intro hP hQ;clear hP hQ;have j:=qh<|((Bxs.new (S) 30 [.bool (decide (t<0)),.slice a1 (Ja t.natAbs) c1]).alloc (.cells #[.bool (decide (m<0)),.slice X (Ja m.natAbs) c2] 30)).alloc (.cells zFv.toArray 32);have g:=qh<|(Bxs.new (S.alloc (.cells #[.bool (decide (t<0)),.slice a1 (Ja t.natAbs) c1] 30)) 30 [.bool (decide (m<0)),.slice X (Ja m.natAbs) c2]).alloc (.cells zFv.toArray 32);have h:=qh<|Bxs.new ((S.alloc (.cells #[.bool (decide (t<0)),.slice a1 (Ja t.natAbs) c1] 30)).alloc (.cells #[.bool (decide (m<0)),.slice X (Ja m.natAbs) c2] 30)) 32 zFv;obtain⟨aW,hW⟩:=gn (((S.alloc (.cells #[.bool (decide (t<0)),.slice a1 (Ja t.natAbs) c1] 30)).alloc (.cells #[.bool (decide (m<0)),.slice X (Ja m.natAbs) c2] 30)).alloc (.cells zFv.toArray 32));have u:=qh<|Go.bq hW (((zk.alloc zj _).alloc (by go_size) _).alloc (by go_size) _);have f:=qh (show S.heap.size+3<=aW.heap.size by rw[hW];simp only[World.size_alloc];omega);have j:=qh (show Bxs aW (S.heap.size) 30 [.bool (decide (t<0)),.slice a1 (Ja t.natAbs) c1] by have aw:=j.o;rw[hW];exact aw);have g:=qh (show Bxs aW (S.heap.size+1) 30 [.bool (decide (m<0)),.slice X (Ja m.natAbs) c2] by have aw:=g.o;simp only[World.size_alloc] at aw;rw[hW];exact aw);have h:=qh (show Bxs aW (S.heap.size+1+1) 32 zFv by have aw:=h.o;simp only[World.size_alloc] at aw;rw[hW];exact aw);have HW:=qh hW
 clear hW;have l:=qh<|show RdS aW S.heap.size (S.heap.size+3) a1 (Ja t.natAbs) (dgi t.natAbs) from⟨h1.below u.o,λh0 a3 hp=>Or.inl (aH h1 h0 a3 hp)⟩;have i:=qh<|show RdS aW S.heap.size (S.heap.size+3) X (Ja m.natAbs) (dgi m.natAbs) from⟨h2.below u.o,λh0 a3 hp=>Or.inl (aH h2 h0 a3 hp)⟩;have av:=qh aT;have J:=qh aU;clear h1 h2 aT aU aH;obtain⟨cs,aE⟩:=gn (Js m 0);have SG:=qh<|K6 (decide (m<0)) X (Ja m.natAbs) c2 (dgi m.natAbs) aW i.o.rd Zo J.o;rw[Jl,<- aE] at SG;by_cases ag:m<0
 ·have hc:cs<0:=by rw[aE,JK ag];omega
  obtain⟨au,ht⟩:=gn (-t);obtain⟨ah,hl⟩:=gn (-m);have v:=qh<|low_tl t m au ah hz (Or.inl ⟨ag,ht,hl⟩);have HT:=qh<|And.intro ht hl;have aN:=qh<|And.intro aK aL;have I:=qh (show Ja au.natAbs<=4000000/\Ja ah.natAbs<=4000000 by rw[ht,hl,Int.natAbs_neg,Int.natAbs_neg];exact aN.o);clear aE ag hz aK aL ht hl;go_enter func192,ntmps192
  go_upto_region 1 with (fail)
  rw[<- HW.o];clear HW;obtain⟨p,q,x,y⟩:=g.o.d2;go_wp2_with fail
  with_reducible refine(SG.o).mono ?_
  rintro e w1 ⟨rfl,c⟩;clear p q x y;have j:=qh<|j.o.bl c;have g:=qh<|g.o.bl c;have h:=qh<|h.o.bl c;have l:=qh<|l.o.below c;have i:=qh<|i.o.below c;have f:=qh<|zm f.o c.size;have u:=qk u c;clear c SG;have NG:=qh (λ(k:World) (c:Bl w1 k)=>YX (decide (t<0)) a1 (Ja t.natAbs) c1 (dgi t.natAbs) k (l.o.rd.below c) (Zh aN) av.o);rw[Jl,<- HT.o.1] at NG;obtain⟨D,E,P,Q⟩:=j.o.d2;go_wp2_with fail
  with_reducible refine(NG.o _ zk).mono ?_
  rintro e w2 ⟨x1,d1,rfl,A,c⟩;have l:=qh<|A.rdS S.heap.size (S.heap.size+3) f.o;have av:=qh A.le;clear A D E P Q;have j:=qh<|j.o.bl c;have g:=qh<|g.o.bl c;have h:=qh<|h.o.bl c;have i:=qh<|i.o.below c;have f:=qh<|zm f.o c.size;have u:=qk u c;clear c NG;obtain⟨D,E,P,Q⟩:=j.o.d2
  go_upto_region 3 with (fail)
  obtain⟨v3,r⟩:=gn ((w2.setCell ⟨S.heap.size,0,none⟩ (.bool (decide (au<0)))).setCell ⟨S.heap.size,1,none⟩ (.slice x1 (Ja au.natAbs) d1));have j:=qh<|bw r (((j.o).put 0 _).put 1 _);have g:=qh<|bz r (((g.o).oz).oz);have h:=qh<|bz r (((h.o).oz).oz)
  have ae:Sin S.heap.size (S.heap.size+3) w2 v3:=by rw[r];exact((Sin.refl _ _ _).sz).sz
  have i:=qh<|i.o.sin ae;have l:=qh<|l.o.sin ae;clear ae;have u:=qh<|Go.bq r (((u.o).sc).sc);have f:=qh (show S.heap.size+3<=v3.heap.size by rw[r];simp only[World.size_setCell];have:=f.o;omega);rw[<- r];clear r D E P Q;have NG:=qh (λ(k:World) (c:Bl v3 k)=>YX (decide (m<0)) X (Ja m.natAbs) c2 (dgi m.natAbs) k (i.o.rd.below c) (Zh aN) J.o);rw[Jl,<- HT.o.2] at NG;obtain⟨p,q,x,y⟩:=g.o.d2;go_wp2_with fail
  with_reducible refine(NG.o _ zk).mono ?_
  rintro e w4 ⟨x2,d2,rfl,A,c⟩;have i:=qh<|A.rdS S.heap.size (S.heap.size+3) f.o;have J:=qh A.le;clear A p q x y;have j:=qh<|j.o.bl c;have g:=qh<|g.o.bl c;have h:=qh<|h.o.bl c;have l:=qh<|l.o.below c;have f:=qh<|zm f.o c.size;have u:=qk u c;clear c NG;obtain⟨p,q,x,y⟩:=g.o.d2
  go_upto_region 4 with (fail)
  obtain⟨v5,r⟩:=gn ((w4.setCell ⟨S.heap.size+1,0,none⟩ (.bool (decide (ah<0)))).setCell ⟨S.heap.size+1,1,none⟩ (.slice x2 (Ja ah.natAbs) d2));have j:=qh<|bz r (((j.o).oz).oz);have g:=qh<|bw r (((g.o).put 0 _).put 1 _);have h:=qh<|bz r (((h.o).oz).oz)
  have ae:Sin S.heap.size (S.heap.size+3) w4 v5:=by rw[r];exact((Sin.refl _ _ _).sz).sz
  have l:=qh<|l.o.sin ae;have i:=qh<|i.o.sin ae;clear ae;have u:=qh<|Go.bq r (((u.o).sc).sc);have f:=qh (show S.heap.size+3<=v5.heap.size by rw[r];simp only[World.size_setCell];have:=f.o;omega);rw[<- r];clear r p q x y;obtain⟨U,hG⟩:=gn ((Int.gcd au ah:Nat):Int);have ax:=qh (show Ja U.natAbs<=8000000 by rw[hG,Int.natAbs_natCast];have:=Vb au ah;have:=I.o;omega);rw[<- hG,<- aJ.o.1,<- aJ.o.2] at v;have HG:=qh hG;clear hG;by_cases G:ah=1
  ·have az:=qh<|v.o.2.2.2.2 G;have W:=qh (λ(k:World) (c:Bl v5 k)=>ZV (decide (ah<0)) x2 (Ja ah.natAbs) d2 (dgi ah.natAbs) k (i.o.rd.below c) (Zh I) J.o (JY ah));rw[Jl,decide_eq_true G] at W;clear G;obtain⟨p,q,x,y⟩:=g.o.d2;go_wp2_with fail
   with_reducible refine(W.o _ zk).mono ?_
   rintro e w6 ⟨rfl,c⟩;clear p q x y;have j:=qh<|j.o.bl c;have g:=qh<|g.o.bl c;have h:=qh<|h.o.bl c;have l:=qh<|l.o.below c;have i:=qh<|i.o.below c;have f:=qh<|zm f.o c.size;have u:=qk u c;clear c W;have aA:=qh (λ(k:World) (c:Bl w6 k)=>XK (decide (au<0)) x1 (Ja au.natAbs) d1 (dgi au.natAbs) k (l.o.rd.below c) (Zh I))
   go_upto_region 5 with (fail)
   have HS:=qh (λ(k:World) (c:Bl w6 k)=>And.intro (j.o.bl c).bx.all ((g.o.bl c).bx.all))
   refine Ji 3 (JI [(1,Sp.made (λaI:Option Addr × Nat=>Jv (decide (au<0)) aI.1 (Ja au.natAbs) aI.2) (λaI k=>Own 128 k w6.heap.size aI.1 (Ja au.natAbs) aI.2 (dgi au.natAbs)))]) (λk=>Bl w6 k) Zk Zk
    (Jb (Sp.Jf λaI S k aw c=>aw.below c) (Jh)) (λ_ _ aw c=>aw.trans (c.mono aw.size)) (zk.drew) ?_
   simp only[zx,zy,zv,zw];refine rdw (λk F=>by obtain⟨k0,k1,k2,k3⟩:=(HS.o _ F).1;go_simp;try rfl) ?_
   (refine Jc rfl rfl (λk aQ=>?_) ?_;· (have F:=Has.world aQ;go_simp;((refine(aA.o k F).mono ?_;rintro e ba ⟨za,zb,rfl,A,-,c⟩;exact⟨_,rfl,⟨⟨za,zb,rfl⟩,⟨za,zb,rfl,A.mono F.size⟩⟩,c⟩))))
   rintro _ ⟨y1,rfl⟩
   conv=>arg 10;simp only[Act.put,zq0,zq1,zq2]
   refine rdw (λk F=>by obtain⟨k0,k1,k2,k3⟩:=(HS.o _ F).2;go_simp;try rfl) ?_;refine Jn (λw7 c hF=>?_);have aj:=qh<|Own.mono (JU (T:=128) (x:=y1) (b:=w6.heap.size) (s:=decide (au<0)) (L:=Ja au.natAbs) (o:=dgi au.natAbs) (hF 1)) f.o;clear hF HS;have j:=qh<|j.o.bl c;have g:=qh<|g.o.bl c;have h:=qh<|h.o.bl c;have l:=qh<|l.o.below c;have i:=qh<|i.o.below c;have f:=qh<|zm f.o c.size;have u:=qk u c;clear c aA;have aP:=qh (λ(k:World) (c:Bl w7 k)=>XK (decide (ah<0)) x2 (Ja ah.natAbs) d2 (dgi ah.natAbs) k (i.o.rd.below c) (Zh I));obtain⟨Y,Z,aa,ab,ak,am⟩:=h.o.d4;go_wp2_with fail
   with_reducible refine(aP.o _ zk).mono ?_
   rintro e w8 ⟨m2,e2,rfl,aF,-,c⟩;have aO:=qh<|aF.mono f.o;clear aF Y Z aa ab ak am;have j:=qh<|j.o.bl c;have g:=qh<|g.o.bl c;have h:=qh<|h.o.bl c;have l:=qh<|l.o.below c;have i:=qh<|i.o.below c;have aj:=qh<|aj.o.below c;have f:=qh<|zm f.o c.size;have u:=qk u c;clear c;obtain⟨Y,Z,aa,ab,ak,am⟩:=h.o.d4;go_wp2_with fail
   have aR:=f.o;refine bodyPost_ret (Je rfl _ _ _ _ _ _ _ rfl (((((h.o).put 0 _).put 1 _).put 2 _).put 3 _) underlying32 rfl Zk) rfl ?_;rw[az.o.1,az.o.2];refine⟨y1.1,y1.2,m2,e2,rfl,?_,?_,?_⟩
   ·exact(((((aj.o).oz).oz).oz).oz).mono Zo
   ·exact(((((aO.o).oz).oz).oz).oz).mono Zo
   ·exact((((u.o).sc).sc).sc).sc
  ·have a4:=qh G;have W:=qh (λ(k:World) (c:Bl v5 k)=>ZV (decide (ah<0)) x2 (Ja ah.natAbs) d2 (dgi ah.natAbs) k (i.o.rd.below c) (Zh I) J.o (JY ah));rw[Jl,zo G] at W;clear G;obtain⟨p,q,x,y⟩:=g.o.d2;go_wp2_with fail
   with_reducible refine(W.o _ zk).mono ?_
   rintro e w9 ⟨rfl,c⟩;clear p q x y;have j:=qh<|j.o.bl c;have g:=qh<|g.o.bl c;have h:=qh<|h.o.bl c;have l:=qh<|l.o.below c;have i:=qh<|i.o.below c;have f:=qh<|zm f.o c.size;have u:=qk u c;clear c W;have GC:=qh (λ(k:World) (c:Bl w9 k)=>jao (decide (au<0)) x1 (Ja au.natAbs) d1 (dgi au.natAbs) (decide (ah<0)) x2 (Ja ah.natAbs) d2 (dgi ah.natAbs) k (l.o.rd.below c) (Zh I) av.o (i.o.rd.below c) (Zh I) J.o);rw[Jl,Jl,<- HG.o] at GC;obtain⟨D,E,P,Q⟩:=j.o.d2;obtain⟨p,q,x,y⟩:=g.o.d2;go_wp2_with fail
   with_reducible refine(GC.o _ zk).mono ?_
   rintro e wg ⟨xg,dg,rfl,A,c⟩;clear D E P Q p q x y GC
   go_upto_region 7 with (fail)
   have d:=c.alloc c.size (.cells #[.bool (decide (U<0)),.slice xg (Ja U.natAbs) dg] 30);have C:=qh<|Bxs.new wg 30 [.bool (decide (U<0)),.slice xg (Ja U.natAbs) dg];have B:=qh<|(A.mono f.o).JD (.cells #[.bool (decide (U<0)),.slice xg (Ja U.natAbs) dg] 30);obtain⟨vg,r⟩:=gn (wg.alloc (.cells #[.bool (decide (U<0)),.slice xg (Ja U.natAbs) dg] 30));rw[<- r] at d B;rw[<- r] at C;rw[<- r];obtain⟨b4,aD⟩:=gn wg.heap.size;rw[<- aD] at C ⊢;clear r aD A c;have j:=qh<|j.o.bl d;have g:=qh<|g.o.bl d;have h:=qh<|h.o.bl d;have l:=qh<|l.o.below d;have i:=qh<|i.o.below d;have f:=qh<|zm f.o d.size;have u:=qk u d;clear d;have H:=qh (λ(k:World) (c:Bl vg k)=>Va au U x1 xg d1 dg k (l.o.rd.below c) (Zh I) av.o (B.o.rd.below c) (Zh ax) B.o.le v.o.2.1);obtain⟨K,aq⟩:=gn (au/U);obtain⟨N,aB⟩:=gn (au%U);unfold DivF at H;rw[<- aq,<- aB] at H;rw[<- aq] at v;clear aq aB;obtain⟨D,E,P,Q⟩:=j.o.d2;obtain⟨ac,ad,an,ao⟩:=C.o.d2;go_wp2_with fail
   with_reducible refine(H.o _ zk).mono ?_
   rintro e wq ⟨xq,dq,uq,vq,rfl,A,-,c⟩;clear D E P Q ac ad an ao H
   go_upto_region 8 with (fail)
   have d:=(c.alloc c.size (.cells #[.bool (decide (K<0)),.slice xq (Ja K.natAbs) dq] 30)).alloc (by have:=c.size;go_size) (.cells #[.bool (decide (N<0)),.slice uq (Ja N.natAbs) vq] 30);have z:=qh<|(Bxs.new wq 30 [.bool (decide (K<0)),.slice xq (Ja K.natAbs) dq]).alloc (.cells #[.bool (decide (N<0)),.slice uq (Ja N.natAbs) vq] 30);have af:=qh<|((A.mono f.o).JD (.cells #[.bool (decide (K<0)),.slice xq (Ja K.natAbs) dq] 30)).JD (.cells #[.bool (decide (N<0)),.slice uq (Ja N.natAbs) vq] 30);obtain⟨aS,r⟩:=gn ((wq.alloc (.cells #[.bool (decide (K<0)),.slice xq (Ja K.natAbs) dq] 30)).alloc (.cells #[.bool (decide (N<0)),.slice uq (Ja N.natAbs) vq] 30));rw[<- r] at d af;rw[<- r] at z;rw[<- r];obtain⟨bq,R⟩:=gn wq.heap.size;rw[<- R] at z ⊢;clear r R A c;have j:=qh<|j.o.bl d;have g:=qh<|g.o.bl d;have h:=qh<|h.o.bl d;have C:=qh<|C.o.bl d;have l:=qh<|l.o.below d;have i:=qh<|i.o.below d;have B:=qh<|B.o.below d;have f:=qh<|zm f.o d.size;have u:=qk u d;clear d;have ai:=qh z.o;clear z;have H:=qh (λ(k:World) (c:Bl aS k)=>Va ah U x2 xg d2 dg k (i.o.rd.below c) (Zh I) J.o (B.o.rd.below c) (Zh ax) B.o.le v.o.2.1);obtain⟨M,ar⟩:=gn (ah/U);obtain⟨O,aC⟩:=gn (ah%U);unfold DivF at H;rw[<- ar,<- aC] at H;rw[<- ar] at v;clear ar aC;obtain⟨p,q,x,y⟩:=g.o.d2;obtain⟨ac,ad,an,ao⟩:=C.o.d2;go_wp2_with fail
   with_reducible refine(H.o _ zk).mono ?_
   rintro e wr ⟨xr,dr,ur,vr,rfl,A,-,c⟩;clear p q x y ac ad an ao H
   go_upto_region 9 with (fail)
   have d:=(c.alloc c.size (.cells #[.bool (decide (M<0)),.slice xr (Ja M.natAbs) dr] 30)).alloc (by have:=c.size;go_size) (.cells #[.bool (decide (O<0)),.slice ur (Ja O.natAbs) vr] 30);have z:=qh<|(Bxs.new wr 30 [.bool (decide (M<0)),.slice xr (Ja M.natAbs) dr]).alloc (.cells #[.bool (decide (O<0)),.slice ur (Ja O.natAbs) vr] 30);have ay:=qh<|((A.mono f.o).JD (.cells #[.bool (decide (M<0)),.slice xr (Ja M.natAbs) dr] 30)).JD (.cells #[.bool (decide (O<0)),.slice ur (Ja O.natAbs) vr] 30);obtain⟨a9,r⟩:=gn ((wr.alloc (.cells #[.bool (decide (M<0)),.slice xr (Ja M.natAbs) dr] 30)).alloc (.cells #[.bool (decide (O<0)),.slice ur (Ja O.natAbs) vr] 30));rw[<- r] at d ay;rw[<- r] at z;rw[<- r];obtain⟨br,R⟩:=gn wr.heap.size;rw[<- R] at z ⊢;clear r R A c;have j:=qh<|j.o.bl d;have g:=qh<|g.o.bl d;have h:=qh<|h.o.bl d;have C:=qh<|C.o.bl d;have ai:=qh<|ai.o.bl d;have l:=qh<|l.o.below d;have i:=qh<|i.o.below d;have B:=qh<|B.o.below d;have af:=qh<|af.o.below d;have f:=qh<|zm f.o d.size;have u:=qk u d;clear d;have aM:=qh z.o;clear z;obtain⟨aX,aY,a5,a6⟩:=ai.o.d2;obtain⟨aZ,a0,a7,a8⟩:=aM.o.d2;obtain⟨Y,Z,aa,ab,ak,am⟩:=h.o.d4;go_wp2_with fail
   have aR:=f.o;refine bodyPost_ret (Je rfl _ _ _ _ _ _ _ rfl (((((h.o).put 0 _).put 1 _).put 2 _).put 3 _) underlying32 rfl Zk) rfl ?_;rw[<- v.o.2.2.1,<- v.o.2.2.2.1];refine⟨xq,dq,xr,dr,rfl,?_,?_,?_⟩
   ·exact(((((af.o).oz).oz).oz).oz).mono Zo
   ·exact(((((ay.o).oz).oz).oz).oz).mono Zo
   ·exact((((u.o).sc).sc).sc).sc
 ·have hc:¬cs<0:=by rw[aE];unfold Js;rw[if_neg ag];split <;> omega
  have v:=qh<|low_tl t m t m hz (Or.inr ⟨ag,rfl,rfl⟩);have I:=qh<|And.intro aK aL;clear aE ag hz aK aL;go_enter func192,ntmps192
  go_upto_region 1 with (fail)
  rw[<- HW.o];clear HW;obtain⟨p,q,x,y⟩:=g.o.d2;go_wp2_with fail
  with_reducible refine(SG.o).mono ?_
  rintro e aV ⟨rfl,c⟩;clear p q x y;have j:=qh<|j.o.bl c;have g:=qh<|g.o.bl c;have h:=qh<|h.o.bl c;have l:=qh<|l.o.below c;have i:=qh<|i.o.below c;have f:=qh<|zm f.o c.size;have u:=qk u c;clear c SG;obtain⟨U,hG⟩:=gn ((Int.gcd t m:Nat):Int);have ax:=qh (show Ja U.natAbs<=8000000 by rw[hG,Int.natAbs_natCast];have:=Vb t m;have:=I.o;omega);rw[<- hG,<- aJ.o.1,<- aJ.o.2] at v;have HG:=qh hG;clear hG;by_cases G:m=1
  ·have az:=qh<|v.o.2.2.2.2 G;have W:=qh (λ(k:World) (c:Bl aV k)=>ZV (decide (m<0)) X (Ja m.natAbs) c2 (dgi m.natAbs) k (i.o.rd.below c) (Zh I) J.o (JY m));rw[Jl,decide_eq_true G] at W;clear G;obtain⟨p,q,x,y⟩:=g.o.d2;go_wp2_with fail
   with_reducible refine(W.o _ zk).mono ?_
   rintro e aG ⟨rfl,c⟩;clear p q x y;have j:=qh<|j.o.bl c;have g:=qh<|g.o.bl c;have h:=qh<|h.o.bl c;have l:=qh<|l.o.below c;have i:=qh<|i.o.below c;have f:=qh<|zm f.o c.size;have u:=qk u c;clear c W;have aA:=qh (λ(k:World) (c:Bl aG k)=>XK (decide (t<0)) a1 (Ja t.natAbs) c1 (dgi t.natAbs) k (l.o.rd.below c) (Zh I))
   go_upto_region 5 with (fail)
   have HS:=qh (λ(k:World) (c:Bl aG k)=>And.intro (j.o.bl c).bx.all ((g.o.bl c).bx.all))
   refine Ji 3 (JI [(1,Sp.made (λaI:Option Addr × Nat=>Jv (decide (t<0)) aI.1 (Ja t.natAbs) aI.2) (λaI k=>Own 128 k aG.heap.size aI.1 (Ja t.natAbs) aI.2 (dgi t.natAbs)))]) (λk=>Bl aG k) Zk Zk
    (Jb (Sp.Jf λaI S k aw c=>aw.below c) (Jh)) (λ_ _ aw c=>aw.trans (c.mono aw.size)) (zk.drew) ?_
   simp only[zx,zy,zv,zw];refine rdw (λk F=>by obtain⟨k0,k1,k2,k3⟩:=(HS.o _ F).1;go_simp;try rfl) ?_
   (refine Jc rfl rfl (λk aQ=>?_) ?_;· (have F:=Has.world aQ;go_simp;((refine(aA.o k F).mono ?_;rintro e ba ⟨za,zb,rfl,A,-,c⟩;exact⟨_,rfl,⟨⟨za,zb,rfl⟩,⟨za,zb,rfl,A.mono F.size⟩⟩,c⟩))))
   rintro _ ⟨y1,rfl⟩
   conv=>arg 10;simp only[Act.put,zq0,zq1,zq2]
   refine rdw (λk F=>by obtain⟨k0,k1,k2,k3⟩:=(HS.o _ F).2;go_simp;try rfl) ?_;refine Jn (λbb c hF=>?_);have aj:=qh<|Own.mono (JU (T:=128) (x:=y1) (b:=aG.heap.size) (s:=decide (t<0)) (L:=Ja t.natAbs) (o:=dgi t.natAbs) (hF 1)) f.o;clear hF HS;have j:=qh<|j.o.bl c;have g:=qh<|g.o.bl c;have h:=qh<|h.o.bl c;have l:=qh<|l.o.below c;have i:=qh<|i.o.below c;have f:=qh<|zm f.o c.size;have u:=qk u c;clear c aA;have aP:=qh (λ(k:World) (c:Bl bb k)=>XK (decide (m<0)) X (Ja m.natAbs) c2 (dgi m.natAbs) k (i.o.rd.below c) (Zh I));obtain⟨Y,Z,aa,ab,ak,am⟩:=h.o.d4;go_wp2_with fail
   with_reducible refine(aP.o _ zk).mono ?_
   rintro e be ⟨m2,e2,rfl,aF,-,c⟩;have aO:=qh<|aF.mono f.o;clear aF Y Z aa ab ak am;have j:=qh<|j.o.bl c;have g:=qh<|g.o.bl c;have h:=qh<|h.o.bl c;have l:=qh<|l.o.below c;have i:=qh<|i.o.below c;have aj:=qh<|aj.o.below c;have f:=qh<|zm f.o c.size;have u:=qk u c;clear c;obtain⟨Y,Z,aa,ab,ak,am⟩:=h.o.d4;go_wp2_with fail
   have aR:=f.o;refine bodyPost_ret (Je rfl _ _ _ _ _ _ _ rfl (((((h.o).put 0 _).put 1 _).put 2 _).put 3 _) underlying32 rfl Zk) rfl ?_;rw[az.o.1,az.o.2];refine⟨y1.1,y1.2,m2,e2,rfl,?_,?_,?_⟩
   ·exact(((((aj.o).oz).oz).oz).oz).mono Zo
   ·exact(((((aO.o).oz).oz).oz).oz).mono Zo
   ·exact((((u.o).sc).sc).sc).sc
  ·have a4:=qh G;have W:=qh (λ(k:World) (c:Bl aV k)=>ZV (decide (m<0)) X (Ja m.natAbs) c2 (dgi m.natAbs) k (i.o.rd.below c) (Zh I) J.o (JY m));rw[Jl,zo G] at W;clear G;obtain⟨p,q,x,y⟩:=g.o.d2;go_wp2_with fail
   with_reducible refine(W.o _ zk).mono ?_
   rintro e bc ⟨rfl,c⟩;clear p q x y;have j:=qh<|j.o.bl c;have g:=qh<|g.o.bl c;have h:=qh<|h.o.bl c;have l:=qh<|l.o.below c;have i:=qh<|i.o.below c;have f:=qh<|zm f.o c.size;have u:=qk u c;clear c W;have GC:=qh (λ(k:World) (c:Bl bc k)=>jao (decide (t<0)) a1 (Ja t.natAbs) c1 (dgi t.natAbs) (decide (m<0)) X (Ja m.natAbs) c2 (dgi m.natAbs) k (l.o.rd.below c) (Zh I) av.o (i.o.rd.below c) (Zh I) J.o);rw[Jl,Jl,<- HG.o] at GC;obtain⟨D,E,P,Q⟩:=j.o.d2;obtain⟨p,q,x,y⟩:=g.o.d2;go_wp2_with fail
   with_reducible refine(GC.o _ zk).mono ?_
   rintro e wg ⟨xg,dg,rfl,A,c⟩;clear D E P Q p q x y GC
   go_upto_region 7 with (fail)
   have d:=c.alloc c.size (.cells #[.bool (decide (U<0)),.slice xg (Ja U.natAbs) dg] 30);have C:=qh<|Bxs.new wg 30 [.bool (decide (U<0)),.slice xg (Ja U.natAbs) dg];have B:=qh<|(A.mono f.o).JD (.cells #[.bool (decide (U<0)),.slice xg (Ja U.natAbs) dg] 30);obtain⟨vg,r⟩:=gn (wg.alloc (.cells #[.bool (decide (U<0)),.slice xg (Ja U.natAbs) dg] 30));rw[<- r] at d B;rw[<- r] at C;rw[<- r];obtain⟨b4,aD⟩:=gn wg.heap.size;rw[<- aD] at C ⊢;clear r aD A c;have j:=qh<|j.o.bl d;have g:=qh<|g.o.bl d;have h:=qh<|h.o.bl d;have l:=qh<|l.o.below d;have i:=qh<|i.o.below d;have f:=qh<|zm f.o d.size;have u:=qk u d;clear d;have H:=qh (λ(k:World) (c:Bl vg k)=>Va t U a1 xg c1 dg k (l.o.rd.below c) (Zh I) av.o (B.o.rd.below c) (Zh ax) B.o.le v.o.2.1);obtain⟨K,aq⟩:=gn (t/U);obtain⟨N,aB⟩:=gn (t%U);unfold DivF at H;rw[<- aq,<- aB] at H;rw[<- aq] at v;clear aq aB;obtain⟨D,E,P,Q⟩:=j.o.d2;obtain⟨ac,ad,an,ao⟩:=C.o.d2;go_wp2_with fail
   with_reducible refine(H.o _ zk).mono ?_
   rintro e wq ⟨xq,dq,uq,vq,rfl,A,-,c⟩;clear D E P Q ac ad an ao H
   go_upto_region 8 with (fail)
   have d:=(c.alloc c.size (.cells #[.bool (decide (K<0)),.slice xq (Ja K.natAbs) dq] 30)).alloc (by have:=c.size;go_size) (.cells #[.bool (decide (N<0)),.slice uq (Ja N.natAbs) vq] 30);have z:=qh<|(Bxs.new wq 30 [.bool (decide (K<0)),.slice xq (Ja K.natAbs) dq]).alloc (.cells #[.bool (decide (N<0)),.slice uq (Ja N.natAbs) vq] 30);have af:=qh<|((A.mono f.o).JD (.cells #[.bool (decide (K<0)),.slice xq (Ja K.natAbs) dq] 30)).JD (.cells #[.bool (decide (N<0)),.slice uq (Ja N.natAbs) vq] 30);obtain⟨aS,r⟩:=gn ((wq.alloc (.cells #[.bool (decide (K<0)),.slice xq (Ja K.natAbs) dq] 30)).alloc (.cells #[.bool (decide (N<0)),.slice uq (Ja N.natAbs) vq] 30));rw[<- r] at d af;rw[<- r] at z;rw[<- r];obtain⟨bq,R⟩:=gn wq.heap.size;rw[<- R] at z ⊢;clear r R A c;have g:=qh<|g.o.bl d;have h:=qh<|h.o.bl d;have C:=qh<|C.o.bl d;have i:=qh<|i.o.below d;have B:=qh<|B.o.below d;have f:=qh<|zm f.o d.size;have u:=qk u d;clear d;have ai:=qh z.o;clear z;have H:=qh (λ(k:World) (c:Bl aS k)=>Va m U X xg c2 dg k (i.o.rd.below c) (Zh I) J.o (B.o.rd.below c) (Zh ax) B.o.le v.o.2.1);obtain⟨M,ar⟩:=gn (m/U);obtain⟨O,aC⟩:=gn (m%U);unfold DivF at H;rw[<- ar,<- aC] at H;rw[<- ar] at v;clear ar aC;obtain⟨p,q,x,y⟩:=g.o.d2;obtain⟨ac,ad,an,ao⟩:=C.o.d2;go_wp2_with fail
   with_reducible refine(H.o _ zk).mono ?_
   rintro e wr ⟨xr,dr,ur,vr,rfl,A,-,c⟩;clear p q x y ac ad an ao H
   go_upto_region 9 with (fail)
   have d:=(c.alloc c.size (.cells #[.bool (decide (M<0)),.slice xr (Ja M.natAbs) dr] 30)).alloc (by have:=c.size;go_size) (.cells #[.bool (decide (O<0)),.slice ur (Ja O.natAbs) vr] 30);have z:=qh<|(Bxs.new wr 30 [.bool (decide (M<0)),.slice xr (Ja M.natAbs) dr]).alloc (.cells #[.bool (decide (O<0)),.slice ur (Ja O.natAbs) vr] 30);have ay:=qh<|((A.mono f.o).JD (.cells #[.bool (decide (M<0)),.slice xr (Ja M.natAbs) dr] 30)).JD (.cells #[.bool (decide (O<0)),.slice ur (Ja O.natAbs) vr] 30);obtain⟨a9,r⟩:=gn ((wr.alloc (.cells #[.bool (decide (M<0)),.slice xr (Ja M.natAbs) dr] 30)).alloc (.cells #[.bool (decide (O<0)),.slice ur (Ja O.natAbs) vr] 30));rw[<- r] at d ay;rw[<- r] at z;rw[<- r];obtain⟨br,R⟩:=gn wr.heap.size;rw[<- R] at z ⊢;clear r R A c;have h:=qh<|h.o.bl d;have ai:=qh<|ai.o.bl d;have af:=qh<|af.o.below d;have f:=qh<|zm f.o d.size;have u:=qk u d;clear d;have aM:=qh z.o;clear z;obtain⟨aX,aY,a5,a6⟩:=ai.o.d2;obtain⟨aZ,a0,a7,a8⟩:=aM.o.d2;obtain⟨Y,Z,aa,ab,ak,am⟩:=h.o.d4;go_wp2_with fail
   have aR:=f.o;refine bodyPost_ret (Je rfl _ _ _ _ _ _ _ rfl (((((h.o).put 0 _).put 1 _).put 2 _).put 3 _) underlying32 rfl Zk) rfl ?_;rw[<- v.o.2.2.1,<- v.o.2.2.2.1];refine⟨xq,dq,xr,dr,rfl,?_,?_,?_⟩
   ·exact(((((af.o).oz).oz).oz).oz).mono Zo
   ·exact(((((ay.o).oz).oz).oz).oz).mono Zo
   ·exact((((u.o).sc).sc).sc).sc
theorem jhi (h:Bool) (l:Option Addr) (d c1:Nat) (z:Nat->Int) (i:Bool) (m:Option Addr) (f c2:Nat) (A:Nat->Int) (v:World) (J:Rat) (y:J=Xv h d z i f A)
  (r:Rd v l d z) (Y:d<=1000000) (D:d<=c1) (s:Rd v m f A) (Z:f<=1000000) (E:f<=c2) :
  Cl 150 #[J4 h l d c1 i m f c2] v λe N=>e=.returned (.int .i64 (Js J.num 0))/\Bl v N:=by
 have g:∀ {a:Option Addr} {n:Nat} {o:Nat->Int},Rd v a n o->0<n->∀ u,a=some u->u.block<v.heap.size:=λac C u k=>by
  obtain⟨b,off,e,M⟩:=ac.cells C
  rw[e] at k;cases k
  exact block_lt_of_cell (M 0 C)
 have H:=JV (s1:=h) (s2:=i) r.rng s.rng;rw[<- y] at H;have HL:=qh (show Ja J.num.natAbs<=1000001 by omega);have j:=qh<|Bxs.new v 32 [.bool h,.slice l d c1,.bool i,.slice m f c2];obtain⟨ab,t⟩:=gn (v.alloc (.cells #[.bool h,.slice l d c1,.bool i,.slice m f c2] 32));have c:=qh<|bq t (zk.alloc zj _);have j:=qh<|bz t j.o;have q:=qh<|X9 h l d c1 z i m f c2 A ab v.heap.size c.o.size (r.below c.o) Zo D (g r) (s.below c.o) Zo E (g s);rw[<- y] at q;obtain⟨u,k⟩:=gn J.num;obtain⟨aa,G⟩:=gn (J.den:Int);rw[<- k,<- G] at q;rw[<- k] at HL ⊢;have B:=qh t;clear t r s H g y k G;go_enter func150,ntmps150
 go_upto_region 1 with (fail)
 rw[<- B.o];clear B;obtain⟨O,P,Q,R,S,T⟩:=Jg j.o;go_wp2_with fail
 with_reducible refine q.o.mono ?_
 intro e I F;obtain⟨⟨K,L,U,W⟩,rfl,hi,p⟩:=Q3 F;have X:=UH (decide (u<0)) K (Ja u.natAbs) L (decide (aa<0)) U (Ja aa.natAbs) W I;have x:=qh<|K6 (decide (u<0)) K (Ja u.natAbs) L (dgi u.natAbs) I hi.r1.rd (Zh HL) hi.c1;rw[Jl] at x;have c:=qk c p;clear F hi p q O P Q R S T j;go_wp2_with fail
 with_reducible refine x.o.mono ?_
 rintro e w3 ⟨rfl,p⟩;have c:=qk c p;clear p x;go_wp2;go_ret;exact⟨rfl,c.o⟩
open Classical in
theorem jkg (t:Bool) (v:Option Addr) (p c1:Nat) (o1:Nat->Int) (u:Bool) (x:Option Addr) (q c2:Nat) (o2:Nat->Int) (j:World) (H:Rat) (hx:H=Xv t p o1 u q o2) (U:Rd j v p o1) (an:p<=1000000) (aj:p<=c1) (W:Rd j x q o2) (ao:q<=1000000) (ak:q<=c2) :
  Cl 108 #[J4 t v p c1 u x q c2] j (K8 j (-H).num ((-H).den:Int)):=by
 have l:∀ {a:Option Addr} {n:Nat} {o:Nat->Int},Rd j a n o->0<n->∀ F,a=some F->F.block<j.heap.size:=λS I F m=>by
  obtain⟨b,off,e,hc⟩:=S.cells I
  rw[e] at m;cases m
  exact block_lt_of_cell (hc 0 I)
 have l1:=JV (s1:=t) (s2:=u) U.rng W.rng;rw[<- hx] at l1;obtain⟨F,m⟩:=gn H.num;obtain⟨af,Z⟩:=gn (H.den:Int);rw[<- m,<- Z] at l1;have HL:=qh (show Ja F.natAbs<=1000001/\Ja af.natAbs<=1000001 by omega);have HP:=qh<|And.intro hx (And.intro m Z);have HF:=qh<|And.intro (l U) (l W);obtain⟨y,X⟩:=gn (-F);have HE:=qh (show(-H).num=y/\((-H).den:Int)=af by rw[X,m,Z,Rat.neg_num,Rat.neg_den];exact⟨rfl,rfl⟩);have ah:=qh X;rw[HE.o.1,HE.o.2];clear X;have i:=qh<|(Bxs.new (j) 32 [.bool t,.slice v p c1,.bool u,.slice x q c2]).alloc (.cells zFv.toArray 32);have d:=qh<|Bxs.new (j.alloc (.cells #[.bool t,.slice v p c1,.bool u,.slice x q c2] 32)) 32 zFv;obtain⟨ag,J⟩:=gn ((j.alloc (.cells #[.bool t,.slice v p c1,.bool u,.slice x q c2] 32)).alloc (.cells zFv.toArray 32));have k:=qh<|bq J ((zk.alloc zj _).alloc (by go_size) _);have f:=qh (show j.heap.size+2<=ag.heap.size by rw[J];simp only[World.size_alloc];omega);have i:=qh (show Bxs ag (j.heap.size) 32 [.bool t,.slice v p c1,.bool u,.slice x q c2] by have S:=i.o;rw[J];exact S);have d:=qh (show Bxs ag (j.heap.size+1) 32 zFv by have S:=d.o;simp only[World.size_alloc] at S;rw[J];exact S);have HW:=qh J;clear J;have aa:=qh<|show RdS ag j.heap.size (j.heap.size+2) v p o1 from⟨U.below k.o,λI F m=>Or.inl (l U I F m)⟩;have ab:=qh<|show RdS ag j.heap.size (j.heap.size+2) x q o2 from⟨W.below k.o,λI F m=>Or.inl (l W I F m)⟩;clear hx m Z l1 U W l;go_enter func108,ntmps108
 go_upto_region 1 with (fail)
 rw[<- HW.o];clear HW;have FT:=qh (λ(g:World) (c:Bl ag g)=>X9 t v p c1 o1 u x q c2 o2 g j.heap.size (by have:=f.o;have:=c.size;omega) (aa.o.rd.below c) Zo aj HF.o.1 (ab.o.rd.below c) Zo ak HF.o.2);rw[<- HP.o.1,<- HP.o.2.1,<- HP.o.2.2] at FT;obtain⟨A,B,C,D,M,N⟩:=i.o.d4;go_wp2_with fail
 with_reducible refine(FT.o _ zk).mono ?_
 intro e w1 hh;obtain⟨z,rfl,hi,c⟩:=Q3 hh;have h:=qh<|hi.up f.o;clear A B C D M N hh hi FT;have i:=qh<|i.o.bl c;have d:=qh<|d.o.bl c;have f:=qh<|zm f.o c.size;have k:=qk k c;clear c;obtain⟨A,B,C,D,M,N⟩:=i.o.d4
 go_upto_region 2 with (fail)
 obtain⟨G,E⟩:=gn ((((w1.setCell ⟨j.heap.size,0,none⟩ (.bool (decide (F<0)))).setCell ⟨j.heap.size,1,none⟩ (.slice z.1 (Ja F.natAbs) z.2.1)).setCell ⟨j.heap.size,2,none⟩ (.bool (decide (af<0)))).setCell ⟨j.heap.size,3,none⟩ (.slice z.2.2.1 (Ja af.natAbs) z.2.2.2));have i:=qh<|bw E (((((i.o).put 0 _).put 1 _).put 2 _).put 3 _);have d:=qh<|bz E (((((d.o).oz).oz).oz).oz)
 have Y:Sin j.heap.size (j.heap.size+2) w1 G:=by rw[E];exact((((Sin.refl _ _ _).sz).sz).sz).sz
 have h:=qh<|h.o.sin Y;clear Y;have k:=qh<|bq E (((((k.o).sc).sc).sc).sc);have f:=qh (show j.heap.size+2<=G.heap.size by rw[E];simp only[World.size_setCell];have:=f.o;omega);rw[<- E];clear E A B C D M N aa ab;have NG:=qh (λ(g:World) (c:Bl G g)=>YX (decide (F<0)) z.1 (Ja F.natAbs) z.2.1 (dgi F.natAbs) g (h.o.r1.rd.below c) (Zh HL) h.o.c1);rw[Jl,<- ah.o] at NG;have HS:=qh (λ(g:World) (c:Bl G g)=>Jg (i.o.bl c))
 refine Ji 5 (JI [(2,Sp.made (λH:Option Addr × Nat=>Jv (decide (y<0)) H.1 (Ja y.natAbs) H.2) (λH g=>Own 128 g G.heap.size H.1 (Ja y.natAbs) H.2 (dgi y.natAbs)))]) (λg=>Bl G g) Zk Zk
  (Jb (Sp.Jf λH j g S c=>S.below c) (Jh)) (λ_ _ S c=>S.trans (c.mono S.size)) (zk.drew) ?_
 simp only[zx,zy,zv,zw]
 iterate 2
  refine rdw (λg r=>by obtain⟨k0,k1,k2,k3,k4,k5⟩:=(HS.o _ r);go_simp;try rfl) ?_
 (refine Jc rfl rfl (λg am=>?_) ?_;· (have r:=Has.world am;go_simp;((refine(NG.o g r).mono ?_;rintro e ar ⟨za,zb,rfl,ho,c⟩;exact⟨_,rfl,⟨⟨za,zb,rfl⟩,⟨za,zb,rfl,ho.mono r.size⟩⟩,c⟩))))
 rintro _ ⟨y2,rfl⟩
 conv=>arg 10;simp only[Act.put,zq0,zq1,zq2]
 iterate 2
  refine rdw (λg r=>by obtain⟨k0,k1,k2,k3,k4,k5⟩:=(HS.o _ r);go_simp;try rfl) ?_
 refine Jn (λw3 c hF=>?_);have K:=qh<|Own.mono (JU (T:=128) (x:=y2) (b:=G.heap.size) (s:=decide (y<0)) (L:=Ja y.natAbs) (o:=dgi y.natAbs) (hF 2)) f.o;clear hF HS;have d:=qh<|d.o.bl c;have h:=qh<|h.o.below c;have f:=qh<|zm f.o c.size;have k:=qk k c;clear c NG;have TW:=qh (λ(g:World) (c:Bl w3 g)=>XK (decide (af<0)) z.2.2.1 (Ja af.natAbs) z.2.2.2 (dgi af.natAbs) g (h.o.r2.rd.below c) (Zh HL));obtain⟨O,P,Q,R,ac,ad⟩:=d.o.d4;go_wp2_with fail
 with_reducible refine(TW.o _ zk).mono ?_
 rintro e w4 ⟨m2,e2,rfl,ae,-,c⟩;have ai:=qh<|ae.mono f.o;clear ae O P Q R ac ad;have d:=qh<|d.o.bl c;have K:=qh<|K.o.below c;have f:=qh<|zm f.o c.size;have k:=qk k c;clear c TW;obtain⟨O,P,Q,R,ac,ad⟩:=d.o.d4;go_wp2_with fail
 have aq:=f.o;refine bodyPost_ret (Je rfl _ _ _ _ _ _ _ rfl (((((d.o).put 0 _).put 1 _).put 2 _).put 3 _) underlying32 rfl Zk) rfl ?_;refine⟨y2.1,y2.2,m2,e2,rfl,?_,?_,?_⟩
 ·exact(((((K.o).oz).oz).oz).oz).mono Zo
 ·exact(((((ai.o).oz).oz).oz).oz).mono Zo
 ·exact((((k.o).sc).sc).sc).sc
theorem Own.V6 {h:Nat} {base:Nat} {a:Option Addr} {c:Nat} {o:Nat->Int} (j:Own h w base a n c o) {q:TypeId} {r:List Value} (l:Bxs w b q r) (p:h≠q) (s:Nat) (v:Value):Own h (w.setCell ⟨b,s,none⟩ v) base a n c o:=by
 refine⟨j.le,j.place.imp id λ⟨i,f,k,hg,g,m⟩=>⟨i,f,k,hg,?_,m⟩,j.rng⟩;rw[Below.heap_setCell _ _ _ _ ?_]
 ·exact g
 ·intro e;have e:i=b:=e;subst e;have d:w.heap[i]?=some (.cells r.toArray q (0,0)):=l;rw[g] at d
  cases d
  exact p rfl
theorem Yd {f:TypeId} {d:List Value} (c:∃ a:Nat,Value.pointer (some ⟨b,0,none⟩)=Value.pointer (some ⟨a,0,none⟩)/\Bxs w a f d/\lo<=a):Bxs w b f d/\lo<=b:=by
 obtain⟨a,e,c⟩:=c
 cases e
 exact c
open Classical in
theorem jkh (K:Bool) (a1:Option Addr) (F c1:Nat) (o1:Nat->Int) (M:Bool) (a2:Option Addr) (G c2:Nat) (o2:Nat->Int) (s3:Bool) (a3:Option Addr) (H c3:Nat) (o3:Nat->Int) (s4:Bool) (a4:Option Addr) (I c4:Nat) (o4:Nat->Int) (m:World) (q aX:Rat) (hx:q=Xv K F o1 M G o2) (hy:aX=Xv s3 H o3 s4 I o4) (h1:Rd m a1 F o1) (bh:F<=1000000) (bc:F<=c1) (h2:Rd m a2 G o2) (bi:G<=1000000) (be:G<=c2) (h3:Rd m a3 H o3) (bj:H<=1000000) (bf:H<=c3) (U:Rd m a4 I o4) (bk:I<=1000000) (bg:I<=c4) :
  Cl 156 #[J4 K a1 F c1 M a2 G c2,J4 s3 a3 H c3 s4 a4 I c4] m (K8 m (q+aX).num ((q+aX).den:Int)):=by
 have u:∀ {a:Option Addr} {n:Nat} {o:Nat->Int},Rd m a n o->0<n->∀ Q,a=some Q->Q.block<m.heap.size:=λD S Q C=>by
  obtain⟨b,off,e,hc⟩:=D.cells S
  rw[e] at C;cases C
  exact block_lt_of_cell (hc 0 S)
 have l1:=JV (s1:=K) (s2:=M) h1.rng h2.rng;rw[<- hx] at l1;have l2:=JV (s1:=s3) (s2:=s4) h3.rng U.rng;rw[<- hy] at l2;obtain⟨Q,C⟩:=gn q.num;obtain⟨aq,hq⟩:=gn (q.den:Int);rw[<- C,<- hq] at l1;obtain⟨r,hr⟩:=gn aX.num;obtain⟨ar,ht⟩:=gn (aX.den:Int);rw[<- hr,<- ht] at l2;have HL:=qh (show(Ja Q.natAbs<=1000001/\Ja aq.natAbs<=1000001)/\Ja r.natAbs<=1000001/\Ja ar.natAbs<=1000001 by omega);have HP:=qh<|And.intro (And.intro hx (And.intro C hq)) (And.intro hy (And.intro hr ht));have HF:=qh<|And.intro (And.intro (u h1) (u h2)) (And.intro (u h3) (u U));have aF:=Jo Q.natAbs ar.natAbs;have aG:=Jo r.natAbs aq.natAbs;have aH:=Jo aq.natAbs ar.natAbs;have aU:=Jo Q.natAbs r.natAbs;rw[<- Int.natAbs_mul] at aF aG aH aU;have aI:=Y0 (Q*ar) (r*aq);obtain⟨v,ac⟩:=gn (Q*ar);obtain⟨x,ad⟩:=gn (r*aq);obtain⟨ao,hS⟩:=gn (v+x);obtain⟨J,ab⟩:=gn (aq*ar);have HE:=qh<|And.intro ac (And.intro ad (And.intro hS ab));rw[<- ac,<- ad] at aI;rw[<- ac] at aF;rw[<- ad] at aG;rw[<- ab] at aH;rw[<- hS] at aI;have HM:=qh (show(Ja v.natAbs<=2000002/\Ja x.natAbs<=2000002)/\Ja J.natAbs<=2000002/\Ja ao.natAbs<=2000003 by omega);obtain⟨z,hz⟩:=gn (q+aX);have HZ:=qh<|show Rat.divInt ao J=z/\J≠0 from⟨by rw[hS,ac,ad,ab,C,hq,hr,ht,hz];exact UG q aX,by rw[ab,hq,ht];exact Int.ne_of_gt (Int.mul_pos (QE q) (QE aX))⟩;rw[<- hz];obtain⟨zp,aJ⟩:=gn z.num;obtain⟨zq,aK⟩:=gn (z.den:Int);have aR:=qh<|And.intro aJ aK;rw[<- aJ,<- aK]
 clear ac ad hS ab hz aJ aK aF aG aH aU aI;have j:=qh<|((Bxs.new (m) 32 [.bool K,.slice a1 F c1,.bool M,.slice a2 G c2]).alloc (.cells #[.bool s3,.slice a3 H c3,.bool s4,.slice a4 I c4] 32)).alloc (.cells zFv.toArray 32);have k:=qh<|(Bxs.new (m.alloc (.cells #[.bool K,.slice a1 F c1,.bool M,.slice a2 G c2] 32)) 32 [.bool s3,.slice a3 H c3,.bool s4,.slice a4 I c4]).alloc (.cells zFv.toArray 32);have h:=qh<|Bxs.new ((m.alloc (.cells #[.bool K,.slice a1 F c1,.bool M,.slice a2 G c2] 32)).alloc (.cells #[.bool s3,.slice a3 H c3,.bool s4,.slice a4 I c4] 32)) 32 zFv;obtain⟨aM,hW⟩:=gn (((m.alloc (.cells #[.bool K,.slice a1 F c1,.bool M,.slice a2 G c2] 32)).alloc (.cells #[.bool s3,.slice a3 H c3,.bool s4,.slice a4 I c4] 32)).alloc (.cells zFv.toArray 32));have t:=qh<|bq hW (((zk.alloc zj _).alloc (by go_size) _).alloc (by go_size) _);have f:=qh (show m.heap.size+3<=aM.heap.size by rw[hW];simp only[World.size_alloc];omega);have j:=qh (show Bxs aM (m.heap.size) 32 [.bool K,.slice a1 F c1,.bool M,.slice a2 G c2] by have D:=j.o;rw[hW];exact D);have k:=qh (show Bxs aM (m.heap.size+1) 32 [.bool s3,.slice a3 H c3,.bool s4,.slice a4 I c4] by have D:=k.o;simp only[World.size_alloc] at D;rw[hW];exact D);have h:=qh (show Bxs aM (m.heap.size+1+1) 32 zFv by have D:=h.o;simp only[World.size_alloc] at D;rw[hW];exact D);have HW:=qh hW;clear hW;have aP:=qh<|show RdS aM m.heap.size (m.heap.size+3) a1 F o1 from⟨h1.below t.o,λS Q C=>Or.inl (u h1 S Q C)⟩
 have aQ:=qh<|show RdS aM m.heap.size (m.heap.size+3) a2 G o2 from⟨h2.below t.o,λS Q C=>Or.inl (u h2 S Q C)⟩;have Y:=qh<|show RdS aM m.heap.size (m.heap.size+3) a3 H o3 from⟨h3.below t.o,λS Q C=>Or.inl (u h3 S Q C)⟩;have Z:=qh<|show RdS aM m.heap.size (m.heap.size+3) a4 I o4 from⟨U.below t.o,λS Q C=>Or.inl (u U S Q C)⟩;clear hx C hq l1 h1 h2 u hy hr ht l2 h3 U;go_enter func156,ntmps156
 go_upto_region 1 with (fail)
 rw[<- HW.o];clear HW;have FT:=qh (λ(d:World) (c:Bl aM d)=>X9 K a1 F c1 o1 M a2 G c2 o2 d m.heap.size (by have:=f.o;have:=c.size;omega) (aP.o.rd.below c) Zo bc HF.o.1.1 (aQ.o.rd.below c) Zo be HF.o.1.2);rw[<- HP.o.1.1,<- HP.o.1.2.1,<- HP.o.1.2.2] at FT;obtain⟨ae,af,ag,ah,ax,ay⟩:=j.o.d4;go_wp2_with fail
 with_reducible refine(FT.o _ zk).mono ?_
 intro e w1 hh;obtain⟨W,rfl,hi,c⟩:=Q3 hh;have i:=qh<|hi.up f.o;clear ae af ag ah ax ay hh hi FT;have j:=qh<|j.o.bl c;have k:=qh<|k.o.bl c;have h:=qh<|h.o.bl c;have Y:=qh<|Y.o.below c;have Z:=qh<|Z.o.below c;have f:=qh<|zm f.o c.size;have t:=qk t c;clear c;obtain⟨ae,af,ag,ah,ax,ay⟩:=j.o.d4
 go_upto_region 2 with (fail)
 obtain⟨v2,l⟩:=gn ((((w1.setCell ⟨m.heap.size,0,none⟩ (.bool (decide (Q<0)))).setCell ⟨m.heap.size,1,none⟩ (.slice W.1 (Ja Q.natAbs) W.2.1)).setCell ⟨m.heap.size,2,none⟩ (.bool (decide (aq<0)))).setCell ⟨m.heap.size,3,none⟩ (.slice W.2.2.1 (Ja aq.natAbs) W.2.2.2));have j:=qh<|bw l (((((j.o).put 0 _).put 1 _).put 2 _).put 3 _);have k:=qh<|bz l (((((k.o).oz).oz).oz).oz);have h:=qh<|bz l (((((h.o).oz).oz).oz).oz)
 have y:Sin m.heap.size (m.heap.size+3) w1 v2:=by rw[l];exact((((Sin.refl _ _ _).sz).sz).sz).sz
 have Y:=qh<|Y.o.sin y;have Z:=qh<|Z.o.sin y;have i:=qh<|i.o.sin y;clear y;have t:=qh<|bq l (((((t.o).sc).sc).sc).sc);have f:=qh (show m.heap.size+3<=v2.heap.size by rw[l];simp only[World.size_setCell];have:=f.o;omega);rw[<- l];clear l ae af ag ah ax ay;have FT:=qh (λ(d:World) (c:Bl v2 d)=>X9 s3 a3 H c3 o3 s4 a4 I c4 o4 d m.heap.size (by have:=f.o;have:=c.size;omega) (Y.o.rd.below c) Zo bf HF.o.2.1 (Z.o.rd.below c) Zo bg HF.o.2.2);rw[<- HP.o.2.1,<- HP.o.2.2.1,<- HP.o.2.2.2] at FT;obtain⟨ai,aj,ak,am,az,aA⟩:=k.o.d4;go_wp2_with fail
 with_reducible refine(FT.o _ zk).mono ?_
 intro e w3 hh;obtain⟨X,rfl,hi,c⟩:=Q3 hh;have p:=qh<|hi.up f.o;clear ai aj ak am az aA hh hi FT;have j:=qh<|j.o.bl c;have k:=qh<|k.o.bl c;have h:=qh<|h.o.bl c;have i:=qh<|i.o.below c;have f:=qh<|zm f.o c.size;have t:=qk t c;clear c;obtain⟨ai,aj,ak,am,az,aA⟩:=k.o.d4
 go_upto_region 3 with (fail)
 obtain⟨B,l⟩:=gn ((((w3.setCell ⟨m.heap.size+1,0,none⟩ (.bool (decide (r<0)))).setCell ⟨m.heap.size+1,1,none⟩ (.slice X.1 (Ja r.natAbs) X.2.1)).setCell ⟨m.heap.size+1,2,none⟩ (.bool (decide (ar<0)))).setCell ⟨m.heap.size+1,3,none⟩ (.slice X.2.2.1 (Ja ar.natAbs) X.2.2.2));have j:=qh<|bz l (((((j.o).oz).oz).oz).oz);have k:=qh<|bw l (((((k.o).put 0 _).put 1 _).put 2 _).put 3 _);have h:=qh<|bz l (((((h.o).oz).oz).oz).oz)
 have y:Sin m.heap.size (m.heap.size+3) w3 B:=by rw[l];exact((((Sin.refl _ _ _).sz).sz).sz).sz
 have i:=qh<|i.o.sin y;have p:=qh<|p.o.sin y;clear y;have t:=qh<|bq l (((((t.o).sc).sc).sc).sc);have f:=qh (show m.heap.size+3<=B.heap.size by rw[l];simp only[World.size_setCell];have:=f.o;omega);rw[<- l];clear l ai aj ak am az aA aP aQ Y Z;have MA:=qh (λ(d:World) (c:Bl B d)=>Q9 (decide (Q<0)) W.1 (Ja Q.natAbs) W.2.1 (dgi Q.natAbs) (decide (ar<0)) X.2.2.1 (Ja ar.natAbs) X.2.2.2 (dgi ar.natAbs) d (i.o.r1.rd.below c) (Zh HL) i.o.c1 (p.o.r2.rd.below c) (Zh HL) p.o.c2);rw[Jl,Jl,<- HE.o.1] at MA;have MB:=qh (λ(d:World) (c:Bl B d)=>Q9 (decide (r<0)) X.1 (Ja r.natAbs) X.2.1 (dgi r.natAbs) (decide (aq<0)) W.2.2.1 (Ja aq.natAbs) W.2.2.2 (dgi aq.natAbs) d (p.o.r1.rd.below c) (Zh HL) p.o.c1 (i.o.r2.rd.below c) (Zh HL) i.o.c2);rw[Jl,Jl,<- HE.o.2.1] at MB;have R:=qh (λ(d:World) (c:Bl B d)=>And.intro (Jg (j.o.bl c)) ((Jg (k.o.bl c))))
 refine Ji 12 (JI [(4,Sp.made (λq:Option Addr × Nat=>Jv (decide (v<0)) q.1 (Ja v.natAbs) q.2) (λq d=>Own 128 d B.heap.size q.1 (Ja v.natAbs) q.2 (dgi v.natAbs))),(9,Sp.made (λq:Option Addr × Nat=>Jv (decide (x<0)) q.1 (Ja x.natAbs) q.2) (λq d=>Own 128 d B.heap.size q.1 (Ja x.natAbs) q.2 (dgi x.natAbs))),(10,Sp.made (λq:Option Addr × Nat=>Jv (decide (ao<0)) q.1 (Ja ao.natAbs) q.2) (λq d=>Own 128 d B.heap.size q.1 (Ja ao.natAbs) q.2 (dgi ao.natAbs))),(11,Sp.made (λb:Nat=>.pointer (some ⟨b,0,none⟩)) (λb d=>Bxs d b 30 [.bool false,.slice none 0 0]/\B.heap.size<=b))]) (λd=>Bl B d) Zk Zk
  (Jb (Sp.Jf λq m d D c=>D.below c) (Jb (Sp.Jf λq m d D c=>D.below c) (Jb (Sp.Jf λq m d D c=>D.below c) (Jb (Sp.Jf λq m d D c=>⟨D.1.below c D.1.lt,D.2⟩) (Jh))))) (λ_ _ D c=>D.trans (c.mono D.size)) (zk.drew) ?_
 simp only[zx,zy,zv,zw]
 iterate 4
  refine rdw (λd g=>by obtain⟨k0,k1,k2,k3,k4,k5⟩:=(R.o _ g).1;obtain⟨k0,k1,k2,k3,k4,k5⟩:=(R.o _ g).2;go_simp;try rfl) ?_
 (refine Jc rfl rfl (λd A=>?_) ?_;· (have g:=Has.world A;go_simp;((refine(MA.o d g).mono ?_;rintro e aL ⟨O,P,rfl,ho,c⟩;exact⟨_,rfl,⟨⟨O,P,rfl⟩,⟨O,P,rfl,ho.mono g.size⟩⟩,c⟩))))
 rintro _ ⟨y4,rfl⟩
 conv=>arg 10;simp only[Act.put,zq0,zq1,zq2]
 iterate 4
  refine rdw (λd g=>by obtain⟨k0,k1,k2,k3,k4,k5⟩:=(R.o _ g).2;obtain⟨k0,k1,k2,k3,k4,k5⟩:=(R.o _ g).1;go_simp;try rfl) ?_
 (refine Jc rfl rfl (λd A=>?_) ?_;· (have g:=Has.world A;go_simp;((refine(MB.o d g).mono ?_;rintro e aL ⟨O,P,rfl,ho,c⟩;exact⟨_,rfl,⟨⟨O,P,rfl⟩,⟨O,P,rfl,ho.mono g.size⟩⟩,c⟩))))
 rintro _ ⟨y9,rfl⟩
 conv=>arg 10;simp only[Act.put,zq0,zq1,zq2]
 have AD:=qh (λ(d:World) (U:Own 128 d B.heap.size y4.1 (Ja v.natAbs) y4.2 (dgi v.natAbs)) (h9:Own 128 d B.heap.size y9.1 (Ja x.natAbs) y9.2 (dgi x.natAbs))=>XL (decide (v<0)) y4.1 (Ja v.natAbs) y4.2 (dgi v.natAbs) (decide (x<0)) y9.1 (Ja x.natAbs) y9.2 (dgi x.natAbs) d U.rd (Zh HM) U.le h9.rd (Zh HM) h9.le);rw[Jl,Jl,<- HE.o.2.2.1] at AD
 (refine Jc rfl rfl (λd A=>?_) ?_;· (have g:=Has.world A;go_simp;((have U:=JU (T:=128) (x:=y4) (b:=B.heap.size) (s:=decide (v<0)) (L:=Ja v.natAbs) (o:=dgi v.natAbs) (A.fact 4 Zk);have h9:=JU (T:=128) (x:=y9) (b:=B.heap.size) (s:=decide (x<0)) (L:=Ja x.natAbs) (o:=dgi x.natAbs) (A.fact 9 Zk);refine(AD.o d U h9).mono ?_;rintro e aL ⟨O,P,rfl,ho,c⟩;exact⟨_,rfl,⟨⟨O,P,rfl⟩,⟨O,P,rfl,ho.mono g.size⟩⟩,c⟩))))
 rintro _ ⟨N,rfl⟩
 conv=>arg 10;simp only[Act.put,zq0,zq1,zq2]
 (refine Jc rfl rfl (λd A=>?_) ?_;· (have g:=Has.world A;go_simp;(first | exact⟨⟨⟨d.heap.size,rfl⟩,⟨d.heap.size,rfl,Bxs.new d _ _,g.size⟩⟩,zk.alloc zj _⟩ | exact⟨⟨Bxs.new d _ _,g.size⟩,zk.alloc zj _⟩ | trace_state)))
 rintro _ ⟨aY,rfl⟩
 conv=>arg 10;simp only[Act.put,zq0,zq1,zq2]
 refine Jn (λw5 c hF=>?_);have a6:=qh<|Own.mono (JU (T:=128) (x:=y4) (b:=B.heap.size) (s:=decide (v<0)) (L:=Ja v.natAbs) (o:=dgi v.natAbs) (hF 4)) f.o;have a7:=qh<|Own.mono (JU (T:=128) (x:=y9) (b:=B.heap.size) (s:=decide (x<0)) (L:=Ja x.natAbs) (o:=dgi x.natAbs) (hF 9)) f.o;have av:=qh<|Own.mono (JU (T:=128) (x:=N) (b:=B.heap.size) (s:=decide (ao<0)) (L:=Ja ao.natAbs) (o:=dgi ao.natAbs) (hF 10)) f.o;have aw:=qh<|Yd (hF 11);clear hF R AD MA MB;obtain⟨aa,au⟩:=aw.o;have aO:=qh av.o;clear a6 a7 av aw;obtain⟨aZ,a0,ba,bb⟩:=aa.d2
 go_upto_region 4 with (fail)
 clear aZ a0 ba bb;obtain⟨vg,l⟩:=gn ((w5.setCell ⟨aY,0,none⟩ (.bool (decide (ao<0)))).setCell ⟨aY,1,none⟩ (.slice N.1 (Ja ao.natAbs) N.2));have E:=bq l ((c.setCell au _).setCell au _);have a5:=qh<|bw l ((aa.put 0 _).put 1 _);have an:=qh (show Own 128 vg (m.heap.size+3) N.1 (Ja ao.natAbs) N.2 (dgi ao.natAbs) by rw[l];exact(aO.o.V6 aa Ze 0 _).V6 (aa.put 0 _) Ze 1 _);rw[<- l];clear l aa au c aO;have j:=qh<|j.o.bl E;have k:=qh<|k.o.bl E;have h:=qh<|h.o.bl E;have i:=qh<|i.o.below E;have p:=qh<|p.o.below E;have f:=qh<|zm f.o E.size;have t:=qk t E;clear E;have MC:=qh (λ(d:World) (c:Bl vg d)=>Q9 (decide (aq<0)) W.2.2.1 (Ja aq.natAbs) W.2.2.2 (dgi aq.natAbs) (decide (ar<0)) X.2.2.1 (Ja ar.natAbs) X.2.2.2 (dgi ar.natAbs) d (i.o.r2.rd.below c) (Zh HL) i.o.c2 (p.o.r2.rd.below c) (Zh HL) p.o.c2);rw[Jl,Jl,<- HE.o.2.2.2] at MC;have R:=qh (λ(d:World) (c:Bl vg d)=>And.intro (a5.o.bl c).bx.all (And.intro (Jg (j.o.bl c)) ((Jg (k.o.bl c)))))
 refine Ji 6 (JI [(5,Sp.made (λq:Option Addr × Nat=>Jv (decide (J<0)) q.1 (Ja J.natAbs) q.2) (λq d=>Own 128 d vg.heap.size q.1 (Ja J.natAbs) q.2 (dgi J.natAbs)))]) (λd=>Bl vg d) Zk Zk
  (Jb (Sp.Jf λq m d D c=>D.below c) (Jh)) (λ_ _ D c=>D.trans (c.mono D.size)) (zk.drew) ?_
 simp only[zx,zy,zv,zw]
 iterate 5
  refine rdw (λd g=>by obtain⟨k0,k1,k2,k3⟩:=(R.o _ g).1;obtain⟨k0,k1,k2,k3,k4,k5⟩:=(R.o _ g).2.1;obtain⟨k0,k1,k2,k3,k4,k5⟩:=(R.o _ g).2.2;go_simp;try rfl) ?_
 (refine Jc rfl rfl (λd A=>?_) ?_;· (have g:=Has.world A;go_simp;((refine(MC.o d g).mono ?_;rintro e aL ⟨O,P,rfl,ho,c⟩;exact⟨_,rfl,⟨⟨O,P,rfl⟩,⟨O,P,rfl,ho.mono g.size⟩⟩,c⟩))))
 rintro _ ⟨y5,rfl⟩
 conv=>arg 10;simp only[Act.put,zq0,zq1,zq2]
 refine Jn (λw6 c hF=>?_);have aN:=qh<|Own.mono (JU (T:=128) (x:=y5) (b:=vg.heap.size) (s:=decide (J<0)) (L:=Ja J.natAbs) (o:=dgi J.natAbs) (hF 5)) f.o;clear hF R;have h:=qh<|h.o.bl c;have an:=qh<|an.o.below c;have f:=qh<|zm f.o c.size;have t:=qk t c;clear c MC;have LO:=qh (λ(d:World) (c:Bl w6 d)=>Kn ao J N.1 y5.1 N.2 y5.2 d (an.o.rd.below c) (Zh HM) an.o.le (aN.o.rd.below c) (Zh HM) aN.o.le HZ.o.2);rw[HZ.o.1,<- aR.o.1,<- aR.o.2] at LO;obtain⟨aB,aC,aD,aE,aS,aT⟩:=h.o.d4;go_wp2_with fail
 with_reducible refine(LO.o _ zk).mono ?_
 rintro e w7 ⟨r1,e1,r2,e2,rfl,aV,aW,c⟩;have a8:=qh<|aV.mono f.o;have a9:=qh<|aW.mono f.o;clear aV aW aB aC aD aE aS aT;have h:=qh<|h.o.bl c;have f:=qh<|zm f.o c.size;have t:=qk t c;clear c LO;obtain⟨aB,aC,aD,aE,aS,aT⟩:=h.o.d4;go_wp2_with fail
 have bm:=f.o;refine bodyPost_ret (Je rfl _ _ _ _ _ _ _ rfl (((((h.o).put 0 _).put 1 _).put 2 _).put 3 _) underlying32 rfl Zk) rfl ?_;refine⟨r1,e1,r2,e2,rfl,?_,?_,?_⟩
 ·exact(((((a8.o).oz).oz).oz).oz).mono Zo
 ·exact(((((a9.o).oz).oz).oz).oz).mono Zo
 ·exact((((t.o).sc).sc).sc).sc
open Classical in
theorem jki (D:Bool) (N:Option Addr) (x c1:Nat) (o1:Nat->Int) (E:Bool) (O:Option Addr) (y c2:Nat) (o2:Nat->Int) (R:Bool) (P:Option Addr) (A c3:Nat) (o3:Nat->Int) (S:Bool) (Q:Option Addr) (B c4:Nat) (o4:Nat->Int) (i:World) (F aO:Rat) (hx:F=Xv D x o1 E y o2) (hy:aO=Xv R A o3 S B o4) (h1:Rd i N x o1) (aW:x<=1000000) (aR:x<=c1) (h2:Rd i O y o2) (aX:y<=1000000) (aS:y<=c2) (h3:Rd i P A o3) (aY:A<=1000000) (aT:A<=c3) (h4:Rd i Q B o4) (aZ:B<=1000000) (aU:B<=c4) :
  Cl 152 #[J4 D N x c1 E O y c2,J4 R P A c3 S Q B c4] i (K8 i (F*aO).num ((F*aO).den:Int)):=by
 have l:∀ {a:Option Addr} {n:Nat} {o:Nat->Int},Rd i a n o->0<n->∀ I,a=some I->I.block<i.heap.size:=λY H I u=>by
  obtain⟨b,off,e,hc⟩:=Y.cells H
  rw[e] at u;cases u
  exact block_lt_of_cell (hc 0 H)
 have l1:=JV (s1:=D) (s2:=E) h1.rng h2.rng;rw[<- hx] at l1;have l2:=JV (s1:=R) (s2:=S) h3.rng h4.rng;rw[<- hy] at l2;obtain⟨I,u⟩:=gn F.num;obtain⟨aB,hq⟩:=gn (F.den:Int);rw[<- u,<- hq] at l1;obtain⟨r,hr⟩:=gn aO.num;obtain⟨aC,ht⟩:=gn (aO.den:Int);rw[<- hr,<- ht] at l2;have HL:=qh (show(Ja I.natAbs<=1000001/\Ja aB.natAbs<=1000001)/\Ja r.natAbs<=1000001/\Ja aC.natAbs<=1000001 by omega);have HP:=qh<|And.intro (And.intro hx (And.intro u hq)) (And.intro hy (And.intro hr ht));have HF:=qh<|And.intro (And.intro (l h1) (l h2)) (And.intro (l h3) (l h4));have aK:=Jo I.natAbs aC.natAbs;have aL:=Jo r.natAbs aB.natAbs;have av:=Jo aB.natAbs aC.natAbs;have aw:=Jo I.natAbs r.natAbs;rw[<- Int.natAbs_mul] at aK aL av aw;obtain⟨G,ai⟩:=gn (I*r);obtain⟨C,U⟩:=gn (aB*aC);have HE:=qh<|And.intro ai U;rw[<- ai] at aw;rw[<- U] at av;have HM:=qh (show Ja G.natAbs<=2000002/\Ja C.natAbs<=2000002 by omega);obtain⟨z,hz⟩:=gn (F*aO);have HZ:=qh<|show Rat.divInt G C=z/\C≠0 from⟨by rw[ai,U,u,hq,hr,ht,hz,Rat.mul_def',<- Rat.divInt_ofNat,Int.natCast_mul],by rw[U,hq,ht];exact Int.ne_of_gt (Int.mul_pos (QE F) (QE aO))⟩;rw[<- hz];obtain⟨zp,ay⟩:=gn z.num;obtain⟨zq,az⟩:=gn (z.den:Int);have aH:=qh<|And.intro ay az;rw[<- ay,<- az];clear ai U hz ay az aK aL av aw;have j:=qh<|((Bxs.new (i) 32 [.bool D,.slice N x c1,.bool E,.slice O y c2]).alloc (.cells #[.bool R,.slice P A c3,.bool S,.slice Q B c4] 32)).alloc (.cells zFv.toArray 32)
 have k:=qh<|(Bxs.new (i.alloc (.cells #[.bool D,.slice N x c1,.bool E,.slice O y c2] 32)) 32 [.bool R,.slice P A c3,.bool S,.slice Q B c4]).alloc (.cells zFv.toArray 32);have g:=qh<|Bxs.new ((i.alloc (.cells #[.bool D,.slice N x c1,.bool E,.slice O y c2] 32)).alloc (.cells #[.bool R,.slice P A c3,.bool S,.slice Q B c4] 32)) 32 zFv;obtain⟨aA,hW⟩:=gn (((i.alloc (.cells #[.bool D,.slice N x c1,.bool E,.slice O y c2] 32)).alloc (.cells #[.bool R,.slice P A c3,.bool S,.slice Q B c4] 32)).alloc (.cells zFv.toArray 32));have m:=qh<|bq hW (((zk.alloc zj _).alloc (by go_size) _).alloc (by go_size) _);have d:=qh (show i.heap.size+3<=aA.heap.size by rw[hW];simp only[World.size_alloc];omega);have j:=qh (show Bxs aA (i.heap.size) 32 [.bool D,.slice N x c1,.bool E,.slice O y c2] by have Y:=j.o;rw[hW];exact Y);have k:=qh (show Bxs aA (i.heap.size+1) 32 [.bool R,.slice P A c3,.bool S,.slice Q B c4] by have Y:=k.o;simp only[World.size_alloc] at Y;rw[hW];exact Y);have g:=qh (show Bxs aA (i.heap.size+1+1) 32 zFv by have Y:=g.o;simp only[World.size_alloc] at Y;rw[hW];exact Y);have HW:=qh hW;clear hW;have aF:=qh<|show RdS aA i.heap.size (i.heap.size+3) N x o1 from⟨h1.below m.o,λH I u=>Or.inl (l h1 H I u)⟩;have aG:=qh<|show RdS aA i.heap.size (i.heap.size+3) O y o2 from⟨h2.below m.o,λH I u=>Or.inl (l h2 H I u)⟩;have K:=qh<|show RdS aA i.heap.size (i.heap.size+3) P A o3 from⟨h3.below m.o,λH I u=>Or.inl (l h3 H I u)⟩
 have M:=qh<|show RdS aA i.heap.size (i.heap.size+3) Q B o4 from⟨h4.below m.o,λH I u=>Or.inl (l h4 H I u)⟩;clear hx u hq l1 h1 h2 l hy hr ht l2 h3 h4;go_enter func152,ntmps152
 go_upto_region 1 with (fail)
 rw[<- HW.o];clear HW;have Z:=qh (λ(f:World) (c:Bl aA f)=>X9 D N x c1 o1 E O y c2 o2 f i.heap.size (by have:=d.o;have:=c.size;omega) (aF.o.rd.below c) Zo aR HF.o.1.1 (aG.o.rd.below c) Zo aS HF.o.1.2);rw[<- HP.o.1.1,<- HP.o.1.2.1,<- HP.o.1.2.2] at Z;obtain⟨aa,ab,ac,ad,aj,ak⟩:=j.o.d4;go_wp2_with fail
 with_reducible refine(Z.o _ zk).mono ?_
 intro e w1 hh;obtain⟨W,rfl,hi,c⟩:=Q3 hh;have h:=qh<|hi.up d.o;clear aa ab ac ad aj ak hh hi Z;have j:=qh<|j.o.bl c;have k:=qh<|k.o.bl c;have g:=qh<|g.o.bl c;have K:=qh<|K.o.below c;have M:=qh<|M.o.below c;have d:=qh<|zm d.o c.size;have m:=qk m c;clear c;obtain⟨aa,ab,ac,ad,aj,ak⟩:=j.o.d4
 go_upto_region 2 with (fail)
 obtain⟨v2,p⟩:=gn ((((w1.setCell ⟨i.heap.size,0,none⟩ (.bool (decide (I<0)))).setCell ⟨i.heap.size,1,none⟩ (.slice W.1 (Ja I.natAbs) W.2.1)).setCell ⟨i.heap.size,2,none⟩ (.bool (decide (aB<0)))).setCell ⟨i.heap.size,3,none⟩ (.slice W.2.2.1 (Ja aB.natAbs) W.2.2.2));have j:=qh<|bw p (((((j.o).put 0 _).put 1 _).put 2 _).put 3 _);have k:=qh<|bz p (((((k.o).oz).oz).oz).oz);have g:=qh<|bz p (((((g.o).oz).oz).oz).oz)
 have t:Sin i.heap.size (i.heap.size+3) w1 v2:=by rw[p];exact((((Sin.refl _ _ _).sz).sz).sz).sz
 have K:=qh<|K.o.sin t;have M:=qh<|M.o.sin t;have h:=qh<|h.o.sin t;clear t;have m:=qh<|bq p (((((m.o).sc).sc).sc).sc);have d:=qh (show i.heap.size+3<=v2.heap.size by rw[p];simp only[World.size_setCell];have:=d.o;omega);rw[<- p];clear p aa ab ac ad aj ak;have Z:=qh (λ(f:World) (c:Bl v2 f)=>X9 R P A c3 o3 S Q B c4 o4 f i.heap.size (by have:=d.o;have:=c.size;omega) (K.o.rd.below c) Zo aT HF.o.2.1 (M.o.rd.below c) Zo aU HF.o.2.2);rw[<- HP.o.2.1,<- HP.o.2.2.1,<- HP.o.2.2.2] at Z;obtain⟨ae,af,ag,ah,am,an⟩:=k.o.d4;go_wp2_with fail
 with_reducible refine(Z.o _ zk).mono ?_
 intro e w3 hh;obtain⟨X,rfl,hi,c⟩:=Q3 hh;have v:=qh<|hi.up d.o;clear ae af ag ah am an hh hi Z;have j:=qh<|j.o.bl c;have k:=qh<|k.o.bl c;have g:=qh<|g.o.bl c;have h:=qh<|h.o.below c;have d:=qh<|zm d.o c.size;have m:=qk m c;clear c;obtain⟨ae,af,ag,ah,am,an⟩:=k.o.d4
 go_upto_region 3 with (fail)
 obtain⟨J,p⟩:=gn ((((w3.setCell ⟨i.heap.size+1,0,none⟩ (.bool (decide (r<0)))).setCell ⟨i.heap.size+1,1,none⟩ (.slice X.1 (Ja r.natAbs) X.2.1)).setCell ⟨i.heap.size+1,2,none⟩ (.bool (decide (aC<0)))).setCell ⟨i.heap.size+1,3,none⟩ (.slice X.2.2.1 (Ja aC.natAbs) X.2.2.2));have j:=qh<|bz p (((((j.o).oz).oz).oz).oz);have k:=qh<|bw p (((((k.o).put 0 _).put 1 _).put 2 _).put 3 _);have g:=qh<|bz p (((((g.o).oz).oz).oz).oz)
 have t:Sin i.heap.size (i.heap.size+3) w3 J:=by rw[p];exact((((Sin.refl _ _ _).sz).sz).sz).sz
 have h:=qh<|h.o.sin t;have v:=qh<|v.o.sin t;clear t;have m:=qh<|bq p (((((m.o).sc).sc).sc).sc);have d:=qh (show i.heap.size+3<=J.heap.size by rw[p];simp only[World.size_setCell];have:=d.o;omega);rw[<- p];clear p ae af ag ah am an aF aG K M;have MA:=qh (λ(f:World) (c:Bl J f)=>Q9 (decide (I<0)) W.1 (Ja I.natAbs) W.2.1 (dgi I.natAbs) (decide (r<0)) X.1 (Ja r.natAbs) X.2.1 (dgi r.natAbs) f (h.o.r1.rd.below c) (Zh HL) h.o.c1 (v.o.r1.rd.below c) (Zh HL) v.o.c1);rw[Jl,Jl,<- HE.o.1] at MA;have MB:=qh (λ(f:World) (c:Bl J f)=>Q9 (decide (aB<0)) W.2.2.1 (Ja aB.natAbs) W.2.2.2 (dgi aB.natAbs) (decide (aC<0)) X.2.2.1 (Ja aC.natAbs) X.2.2.2 (dgi aC.natAbs) f (h.o.r2.rd.below c) (Zh HL) h.o.c2 (v.o.r2.rd.below c) (Zh HL) v.o.c2);rw[Jl,Jl,<- HE.o.2] at MB;have HS:=qh (λ(f:World) (c:Bl J f)=>And.intro (Jg (j.o.bl c)) ((Jg (k.o.bl c))))
 refine Ji 10 (JI [(4,Sp.made (λF:Option Addr × Nat=>Jv (decide (G<0)) F.1 (Ja G.natAbs) F.2) (λF f=>Own 128 f J.heap.size F.1 (Ja G.natAbs) F.2 (dgi G.natAbs))),(9,Sp.made (λF:Option Addr × Nat=>Jv (decide (C<0)) F.1 (Ja C.natAbs) F.2) (λF f=>Own 128 f J.heap.size F.1 (Ja C.natAbs) F.2 (dgi C.natAbs)))]) (λf=>Bl J f) Zk Zk
  (Jb (Sp.Jf λF i f Y c=>Y.below c) (Jb (Sp.Jf λF i f Y c=>Y.below c) (Jh))) (λ_ _ Y c=>Y.trans (c.mono Y.size)) (zk.drew) ?_
 simp only[zx,zy,zv,zw]
 iterate 4
  refine rdw (λf q=>by obtain⟨k0,k1,k2,k3,k4,k5⟩:=(HS.o _ q).1;obtain⟨k0,k1,k2,k3,k4,k5⟩:=(HS.o _ q).2;go_simp;try rfl) ?_
 (refine Jc rfl rfl (λf ax=>?_) ?_;· (have q:=Has.world ax;go_simp;((refine(MA.o f q).mono ?_;rintro e aV ⟨za,zb,rfl,ho,c⟩;exact⟨_,rfl,⟨⟨za,zb,rfl⟩,⟨za,zb,rfl,ho.mono q.size⟩⟩,c⟩))))
 rintro _ ⟨y4,rfl⟩
 conv=>arg 10;simp only[Act.put,zq0,zq1,zq2]
 iterate 4
  refine rdw (λf q=>by obtain⟨k0,k1,k2,k3,k4,k5⟩:=(HS.o _ q).1;obtain⟨k0,k1,k2,k3,k4,k5⟩:=(HS.o _ q).2;go_simp;try rfl) ?_
 (refine Jc rfl rfl (λf ax=>?_) ?_;· (have q:=Has.world ax;go_simp;((refine(MB.o f q).mono ?_;rintro e aV ⟨za,zb,rfl,ho,c⟩;exact⟨_,rfl,⟨⟨za,zb,rfl⟩,⟨za,zb,rfl,ho.mono q.size⟩⟩,c⟩))))
 rintro _ ⟨y9,rfl⟩
 conv=>arg 10;simp only[Act.put,zq0,zq1,zq2]
 refine Jn (λw5 c hF=>?_);have aD:=qh<|Own.mono (JU (T:=128) (x:=y4) (b:=J.heap.size) (s:=decide (G<0)) (L:=Ja G.natAbs) (o:=dgi G.natAbs) (hF 4)) d.o;have aE:=qh<|Own.mono (JU (T:=128) (x:=y9) (b:=J.heap.size) (s:=decide (C<0)) (L:=Ja C.natAbs) (o:=dgi C.natAbs) (hF 9)) d.o;clear hF HS;have g:=qh<|g.o.bl c;have d:=qh<|zm d.o c.size;have m:=qk m c;clear c MA MB;have LO:=qh (λ(f:World) (c:Bl w5 f)=>Kn G C y4.1 y9.1 y4.2 y9.2 f (aD.o.rd.below c) (Zh HM) aD.o.le (aE.o.rd.below c) (Zh HM) aE.o.le HZ.o.2);rw[HZ.o.1,<- aH.o.1,<- aH.o.2] at LO;obtain⟨ao,aq,ar,au,aI,aJ⟩:=g.o.d4;go_wp2_with fail
 with_reducible refine(LO.o _ zk).mono ?_
 rintro e w6 ⟨r1,e1,r2,e2,rfl,aM,aN,c⟩;have aP:=qh<|aM.mono d.o;have aQ:=qh<|aN.mono d.o;clear aM aN ao aq ar au aI aJ;have g:=qh<|g.o.bl c;have d:=qh<|zm d.o c.size;have m:=qk m c;clear c LO;obtain⟨ao,aq,ar,au,aI,aJ⟩:=g.o.d4;go_wp2_with fail
 have a0:=d.o;refine bodyPost_ret (Je rfl _ _ _ _ _ _ _ rfl (((((g.o).put 0 _).put 1 _).put 2 _).put 3 _) underlying32 rfl Zk) rfl ?_;refine⟨r1,e1,r2,e2,rfl,?_,?_,?_⟩
 ·exact(((((aP.o).oz).oz).oz).oz).mono Zo
 ·exact(((((aQ.o).oz).oz).oz).oz).mono Zo
 ·exact((((m.o).sc).sc).sc).sc
end Limb
end Go.Proofs.YthacfgmdihcffaaGreatDoor
