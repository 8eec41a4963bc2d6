/-
  The walk of Div of fracs.
-/
import Derived.Test.YthacfgmdihcffaaGreatDoorPzTJ
set_option linter.unusedSimpArgs false
set_option linter.unusedVariables false
set_option maxHeartbeats 16000000
set_option maxRecDepth 100000
open Go.Proofs.Tryz
namespace Go.Proofs.YthacfgmdihcffaaGreatDoor
namespace Limb
open Go.RowKit Go.Sort Go.FreshH
variable {w w':World} {p q:Int} {hi lo:Nat}
theorem Qo {k:Program} {d:Func} {s t:Tmp} {c:TypeId} (u:d.results=#[.cell s c,.tmp t]) (a:Array Value) (j:World) (i:Nat) (h:TypeId) (b:Array Value) (f:Nat × Nat) (l:TypeDesc)
  (o:a.getD s undef=.pointer (some ⟨i,0,none⟩)) (hg:j.heap[i]?=some (.cells b h f))
  (r:k.underlying c=some l) (m:(match l with | .struct _ | .array _ _=>true | _=>false)=true) (n:(k.info? c).map (·.size)=some b.size) :
  (results d a).run k j=.ok (.tuple #[.agg b,a.getD t undef]) j:=by
 have g:a[s]?.getD undef=.pointer (some ⟨i,0,none⟩):=by simpa using o
 simp[results,u,g,asAddr,run_loadVar_row j i h c b f l hg r m n]
def jbf (w:World) (c p q:Int) (e:Ending) (w':World):Prop :=
 ∃ a1 a2,e=.returned (.tuple #[J4 (decide (p<0)) a1 (Ja p.natAbs) (Ja p.natAbs) (decide (q<0)) a2 (Ja q.natAbs) (Ja q.natAbs),.int .i64 c])/\Own 128 w' w.heap.size a1 (Ja p.natAbs) (Ja p.natAbs) (dgi p.natAbs) /\
  Own 128 w' w.heap.size a2 (Ja q.natAbs) (Ja q.natAbs) (dgi q.natAbs)/\XA a1 a2/\Bl w w'
def MakeF (w:World) (c p q:Int) (e:Ending) (w':World):Prop :=
 ∃ a1 c1 a2 c2,e=.returned (.tuple #[J4 (decide (p<0)) a1 (Ja p.natAbs) c1 (decide (q<0)) a2 (Ja q.natAbs) c2,.int .i64 c])/\Own 128 w' w.heap.size a1 (Ja p.natAbs) c1 (dgi p.natAbs) /\
  Own 128 w' w.heap.size a2 (Ja q.natAbs) c2 (dgi q.natAbs)/\Bl w w'
theorem jkb {c:Int} {e:Ending} (d:e=.returned (.tuple #[J4 false none 0 0 false none 0 0,.int .i64 c])/\Bl w w'):jbf w c 0 0 e w'/\MakeF w c 0 0 e w':=by
 obtain⟨rfl,b⟩:=d
 have a:Ja (Int.natAbs 0)=0:=by rw[show Int.natAbs 0=0 from rfl,Jw]
 refine⟨⟨none,none,?_,?_,?_,λp q d=>(by cases d),b⟩,⟨none,0,none,0,?_,YZ _ _,YZ _ _,b⟩⟩
 ·rw[a];rfl
 ·have:=YZ w' w.heap.size;rw[a] at this ⊢;exact this
 ·have:=YZ w' w.heap.size;rw[a] at this ⊢;exact this
 ·rw[a];rfl
theorem sign_zero (z:Int):(Js z 0=0)↔z=0:=by
 rcases Int.lt_trichotomy z 0 with a | a | a
 ·rw[JK a];omega
 ·rw[J7 a];omega
 ·rw[JS a];omega
open Classical in
theorem make_3 (l:Bool) (k:Option Addr) (f c1:Nat) (F:Nat->Int) (g:Bool) (j:Option Addr) (c c2:Nat) (m:Nat->Int) (x:World)
  (I:Rd x k f F) (R:f<=4000000) (P:f<=c1) (E:Rd x j c m) (S:c<=4000000) (K:c<=c2) (C:okN l f F) (D:okN g c m) (L:Jp g c m=0) :
  Cl 183 #[Jv l k f c1,Jv g j c c2] x λe w'=>e=.returned (.tuple #[J4 false none 0 0 false none 0 0,.int .i64 6])/\Bl x w':=by
 have z:=qh (λ(w':World) (b:Bl x w')=>Qw l k f c1 F w' (I.below b) Zo);have A:=qh (λ(w':World) (b:Bl x w')=>Qw g j c c2 m w' (E.below b) Zo);have H:=qh (λ(w':World) (b:Bl x w')=>Kr g j c c2 m w' (E.below b) Zo K);obtain⟨M,u⟩:=gn (Js (Jp g c m) 0);rw[<- u] at H
 have J:M=0:=by rw[u];exact(sign_zero _).2 L
 subst J;rw[decide_eq_true C] at z;rw[decide_eq_true D] at A;clear C D u L I E;have B:=qh<|((Bx.new x 30 (.bool l) (.slice k f c1)).alloc (.cells #[.bool g,.slice j c c2] 30)).alloc (.cells zFv.toArray 32);have d:=qh<|(Bx.Zu x (.cells #[.bool l,.slice k f c1] 30) 30 (.bool g) (.slice j c c2)).alloc (.cells zFv.toArray 32);have h:=qh<|Bxs.new ((x.alloc (.cells #[.bool l,.slice k f c1] 30)).alloc (.cells #[.bool g,.slice j c c2] 30)) 32 zFv;obtain⟨O,t⟩:=gn (((x.alloc (.cells #[.bool l,.slice k f c1] 30)).alloc (.cells #[.bool g,.slice j c c2] 30)).alloc (.cells zFv.toArray 32));have i:=qh<|bq t (((zk.alloc zj _).alloc (by go_size) _).alloc (by go_size) _);rw[<- t] at B d;rw[<- t,World.size_alloc,World.size_alloc] at h;have G:=qh t;have a:=qh<|Below.refl O.heap.size O;clear t;go_enter func183,ntmps183
 go_upto_region 1 with (fail)
 rw[<- G.o];clear G;obtain⟨n,o,r,s⟩:=B.o.all;go_wp2_with fail
 with_reducible refine(z.o _ (i.o.trans (a.o.mono i.o.size))).mono ?_
 rintro e y ⟨rfl,b⟩;have a:=qk a b;obtain⟨v,rfl⟩:=gn y;clear b n o r s;obtain⟨n,o,r,s⟩:=(d.o.below a.o d.o.lt).all;go_wp2_with fail
 with_reducible refine(A.o _ (i.o.trans (a.o.mono i.o.size))).mono ?_
 rintro e y ⟨rfl,b⟩;have a:=qk a b;obtain⟨v,rfl⟩:=gn y;clear b n o r s;obtain⟨n,o,r,s⟩:=(d.o.below a.o d.o.lt).all;go_wp2_with fail
 with_reducible refine(H.o _ (i.o.trans (a.o.mono i.o.size))).mono ?_
 rintro e y ⟨rfl,b⟩;have a:=qk a b;obtain⟨v,rfl⟩:=gn y;clear b n o r s;obtain⟨n,o,r,s⟩:=(d.o.below a.o d.o.lt).all;obtain⟨T,U,V,W,X,Y⟩:=Jg (h.o.below a.o h.o.lt);go_wp2_with fail
 have N:=i.o.trans (a.o.mono i.o.size);have Q:=h.o.lt;exact bodyPost_ret (Qo rfl _ _ _ _ _ _ _ rfl (((((h.o.below a.o h.o.lt).put 0 _).put 1 _).put 2 _).put 3 _) underlying32 rfl Zk) rfl ⟨rfl,(((N.sc).sc).sc).sc⟩
open Classical in
theorem make_ok (g:Bool) (n:Option Addr) (d c1:Nat) (m:Nat->Int) (f:Bool) (l:Option Addr) (c c2:Nat) (h:Nat->Int) (x:World)
  (E:Rd x n d m) (ae:d<=4000000) (ac:d<=c1) (y:Rd x l c h) (af:c<=4000000) (X:c<=c2) (B:okN g d m) (C:okN f c h) (P:Jp f c h≠0) :
  Cl 183 #[Jv g n d c1,Jv f l c c2] x (jbf x 0 (Rat.divInt (Jp g d m) (Jp f c h)).num ((Rat.divInt (Jp g d m) (Jp f c h)).den:Int)):=by
 have F:=qh (λ(w':World) (b:Bl x w')=>Qw g n d c1 m w' (E.below b) Zo);have G:=qh (λ(w':World) (b:Bl x w')=>Qw f l c c2 h w' (y.below b) Zo);have U:=qh (λ(w':World) (b:Bl x w')=>Kr f l c c2 h w' (y.below b) Zo X);obtain⟨V,A⟩:=gn (Js (Jp f c h) 0);rw[<- A] at U
 have W:(V==0)=false:=by rw[A];simpa using λah=>P ((sign_zero _).1 ah)
 have ab:decide (V=0)=false:=by simpa using W
 rw[decide_eq_true B] at F;rw[decide_eq_true C] at G;obtain⟨Z,Q,t3⟩:=QD g d m B E.rng;obtain⟨u1,R,u3⟩:=QD f c h C y.rng;have M:=qh (λ(w':World) (b:Bl x w')=>UF (Jp g d m) (Jp f c h) n l c1 c2 w' (by rw[Q];exact(E.congr t3).below b) Zo Zo (by rw[R];exact(y.congr u3).below b) Zo Zo P);rw[Z,Q,u1,R] at M;obtain⟨p,N⟩:=gn ((Rat.divInt (Jp g d m) (Jp f c h)).num);obtain⟨q,O⟩:=gn ((Rat.divInt (Jp g d m) (Jp f c h)).den:Int);rw[<- N,<- O] at M;rw[<- N,<- O];clear B C A P E y Z Q t3 u1 R u3 N O;have u:=qh<|((Bx.new x 30 (.bool g) (.slice n d c1)).alloc (.cells #[.bool f,.slice l c c2] 30)).alloc (.cells zFv.toArray 32);have i:=qh<|(Bx.Zu x (.cells #[.bool g,.slice n d c1] 30) 30 (.bool f) (.slice l c c2)).alloc (.cells zFv.toArray 32);have j:=qh<|Bxs.new ((x.alloc (.cells #[.bool g,.slice n d c1] 30)).alloc (.cells #[.bool f,.slice l c c2] 30)) 32 zFv;obtain⟨aa,z⟩:=gn (((x.alloc (.cells #[.bool g,.slice n d c1] 30)).alloc (.cells #[.bool f,.slice l c c2] 30)).alloc (.cells zFv.toArray 32));have k:=qh<|bq z (((zk.alloc zj _).alloc (by go_size) _).alloc (by go_size) _);rw[<- z] at u i;rw[<- z,World.size_alloc,World.size_alloc] at j;have T:=qh z;have a:=qh<|Below.refl aa.heap.size aa;clear z;go_enter func183,ntmps183
 go_upto_region 1 with (fail)
 rw[<- T.o];clear T;obtain⟨o,r,s,t⟩:=u.o.all;go_wp2_with fail
 with_reducible refine(F.o _ (k.o.trans (a.o.mono k.o.size))).mono ?_
 rintro e D ⟨rfl,b⟩;have a:=qk a b;obtain⟨v,rfl⟩:=gn D;clear b o r s t;obtain⟨o,r,s,t⟩:=(i.o.below a.o i.o.lt).all;go_wp2_with fail
 with_reducible refine(G.o _ (k.o.trans (a.o.mono k.o.size))).mono ?_
 rintro e D ⟨rfl,b⟩;have a:=qk a b;obtain⟨v,rfl⟩:=gn D;clear b o r s t;obtain⟨o,r,s,t⟩:=(i.o.below a.o i.o.lt).all;go_wp2_with fail
 with_reducible refine(U.o _ (k.o.trans (a.o.mono k.o.size))).mono ?_
 rintro e D ⟨rfl,b⟩;have a:=qk a b;obtain⟨v,rfl⟩:=gn D;clear b o r s t;obtain⟨o,r,s,t⟩:=(i.o.below a.o i.o.lt).all;obtain⟨z0,z1,z2,z3⟩:=(u.o.below a.o u.o.lt).all;go_wp2_with fail
 with_reducible refine(M.o _ (k.o.trans (a.o.mono k.o.size))).mono ?_
 rintro e w2 ⟨aq,ap,rfl,I,J,H,b⟩;have Y:=k.o.size;have K:=a.o.size;have L:=qh<|And.intro I (And.intro J H);have S:=qh<|zm (show x.heap.size+3<=aa.heap.size by have:=j.o.lt;omega) K;have a:=qk a b;clear I J H b Y K o r s t z0 z1 z2 z3;obtain⟨y0,y1,y2,y3,y4,y5⟩:=Jg (j.o.below a.o j.o.lt);go_wp2_with fail
 have hG:=k.o.trans (a.o.mono k.o.size);have ad:=j.o.lt;have ag:=S.o;refine bodyPost_ret (Qo rfl _ _ _ _ _ _ _ rfl (((((j.o.below a.o j.o.lt).put 0 _).put 1 _).put 2 _).put 3 _) underlying32 rfl Zk) rfl ⟨aq,ap,rfl,?_,?_,L.o.2.2,(((hG.sc).sc).sc).sc⟩
 ·exact((((L.o.1.oz).oz).oz).oz).mono Zo
 ·exact((((L.o.2.1.oz).oz).oz).oz).mono Zo
structure Q7 (w:World) (lo hi:Nat) (p q:Int) (x:Option Addr × Nat × Option Addr × Nat):Prop where
 r1:RdS w lo hi x.1 (Ja p.natAbs) (dgi p.natAbs)
 c1:Ja p.natAbs<=x.2.1
 r2:RdS w lo hi x.2.2.1 (Ja q.natAbs) (dgi q.natAbs)
 c2:Ja q.natAbs<=x.2.2.2
theorem Q7.below {c:Option Addr × Nat × Option Addr × Nat} (b:Q7 w lo hi p q c) (a:Bl w w'):Q7 w' lo hi p q c:=⟨b.r1.below a,b.c1,b.r2.below a,b.c2⟩
theorem Q7.set {f:Option Addr × Nat × Option Addr × Nat} (d:Q7 w lo hi p q f) {a:Addr} (b:lo<=a.block) (c:a.block<hi) (v:Value):Q7 (w.setCell a v) lo hi p q f:=⟨d.r1.set b c v,d.c1,d.r2.set b c v,d.c2⟩
theorem Q7.sz {d:Option Addr × Nat × Option Addr × Nat} (f:Q7 w lo hi p q d) {a:Addr} {v:Value} (b:lo<=a.block:=by dsimp only;omega) (c:a.block<hi:=by dsimp only;omega):Q7 (w.setCell a v) lo hi p q d:=f.set b c v
theorem Q7.up {a:Nat} {d:Option Addr × Nat × Option Addr × Nat} (c:Q7 w lo hi p q d) (b:a<=hi):Q7 w lo a p q d:=⟨c.r1.up b,c.c1,c.r2.up b,c.c2⟩
abbrev jhe (p q:Int) (x:Option Addr × Nat × Option Addr × Nat):Value:=J4 (decide (p<0)) x.1 (Ja p.natAbs) x.2.1 (decide (q<0)) x.2.2.1 (Ja q.natAbs) x.2.2.2
theorem jfy {h:Option Addr × Nat × Option Addr × Nat} (g:∃ f,jhe p q h=jhe p q f/\Q7 w lo hi p q f):Q7 w lo hi p q h:=by
 obtain⟨f,e,g⟩:=g;simp only[Value.agg.injEq,Array.mk.injEq,List.cons.injEq,Value.slice.injEq,true_and,and_true] at e;obtain⟨⟨a,b⟩,c,d⟩:=e;obtain⟨i,j,k,l⟩:=h;obtain⟨m,n,o,r⟩:=f;dsimp only at a b c d;subst a b c d;exact g
theorem Q3 {a:Nat} {e:Ending} (k:jbe w a p q e w'):∃ j,e=.returned (jhe p q j)/\Q7 w' a w.heap.size p q j/\Bl w w':=by
 obtain⟨b,c1,c,c2,rfl,h,f,i,g,d⟩:=k;exact⟨(b,c1,c,c2),rfl,⟨h,f,i,g⟩,d⟩
def Brought (w:World) (t1 t2 l:Int) (e:Ending) (w':World):Prop :=
 ∃ m1 m2 m3:Option Addr,e=.returned (.tuple #[J4 (decide (t1<0)) m1 (Ja t1.natAbs) (Ja t1.natAbs) (decide (t2<0)) m2 (Ja t2.natAbs) (Ja t2.natAbs),Jv (decide (l<0)) m3 (Ja l.natAbs) (Ja l.natAbs)]) /\
  Own 128 w' w.heap.size m1 (Ja t1.natAbs) (Ja t1.natAbs) (dgi t1.natAbs)/\Own 128 w' w.heap.size m2 (Ja t2.natAbs) (Ja t2.natAbs) (dgi t2.natAbs)/\Own 128 w' w.heap.size m3 (Ja l.natAbs) (Ja l.natAbs) (dgi l.natAbs)/\Bl w w'
theorem JV {s1:Bool} {a:Nat} {c:Nat->Int} {s2:Bool} {b:Nat} {d:Nat->Int} (j:∀ g,g<a->0<=c g/\c g<=4294967295) (k:∀ g,g<b->0<=d g/\d g<=4294967295) :
  Ja (Xv s1 a c s2 b d).num.natAbs<=a+1/\Ja ((Xv s1 a c s2 b d).den:Int).natAbs<=b+1:=by
 by_cases f:okF s1 a c s2 b d
 ·obtain⟨h,i⟩:=XY f;rw[h,i];have l:=(QD s1 a c f.1 j).2.1;have m:=(QD s2 b d f.2.1 k).2.1;omega
 ·rw[jaj f];have l:Ja (Rat.num 0).natAbs=0:=Jw;have m:Ja (((Rat.den 0:Nat):Int)).natAbs<=1:=Xg Ze;omega
theorem jhf {j:Program} {k:Func} {E F:Tmp} {g c:TypeId} (G:k.results=#[.cell E g,.cell F c]) (a:Array Value) (i:World) (x f:Nat) (u v:TypeId) (d b:Array Value) (l h:Nat × Nat) (y d2:TypeDesc)
  (B:a.getD E undef=.pointer (some ⟨x,0,none⟩)) (hg:i.heap[x]?=some (.cells d u l)) (C:a.getD F undef=.pointer (some ⟨f,0,none⟩)) (n:i.heap[f]?=some (.cells b v h))
  (D:j.underlying g=some y) (z:(match y with | .struct _ | .array _ _=>true | _=>false)=true) (A:(j.info? g).map (·.size)=some d.size)
  (t:j.underlying c=some d2) (m:(match d2 with | .struct _ | .array _ _=>true | _=>false)=true) (o:(j.info? c).map (·.size)=some b.size) :
  (results k a).run j i=.ok (.tuple #[.agg d,.agg b]) i:=by
 have r:a[E]?.getD undef=.pointer (some ⟨x,0,none⟩):=by simpa using B
 have s:a[F]?.getD undef=.pointer (some ⟨f,0,none⟩):=by simpa using C
 simp[results,G,r,s,asAddr,run_loadVar_row i x u g d l y hg D z A,run_loadVar_row i f v c b h d2 n t m o]
theorem VP (C:Bool) (Z:Option Addr) (A c1:Nat) (o1:Nat->Int) (D:Bool) (a2:Option Addr) (B c2:Nat) (o2:Nat->Int) (H:Bool) (N:Option Addr) (l c3:Nat) (o3:Nat->Int) (I:Bool) (O:Option Addr) (m c4:Nat) (o4:Nat->Int) (f:World) (u an:Rat)
  (hx:u=Xv C A o1 D B o2) (hy:an=Xv H l o3 I m o4)
  (h1:Rd f Z A o1) (ax:A<=1000000) (ar:A<=c1) (h2:Rd f a2 B o2) (ay:B<=1000000) (au:B<=c2) (h3:Rd f N l o3) (az:l<=1000000) (av:l<=c3) (h4:Rd f O m o4) (aA:m<=1000000) (aw:m<=c4) :
  Cl 163 #[J4 C Z A c1 D a2 B c2,J4 H N l c3 I O m c4] f (Brought f (u.num*(an.den:Int)) (an.num*(u.den:Int)) ((u.den:Int)*(an.den:Int))):=by
 have x:∀ {a:Option Addr} {n:Nat} {o:Nat->Int},Rd f a n o->0<n->∀ p,a=some p->p.block<f.heap.size:=λt h0 p hp=>by
  obtain⟨b,off,e,hc⟩:=t.cells h0
  rw[e] at hp;cases hp
  exact block_lt_of_cell (hc 0 h0)
 have OX:=qh (λ(w':World) (c:Bl f w')=>Kv C Z A c1 o1 D a2 B c2 o2 w' f.heap.size c.size (h1.below c) Zo ar (x h1) (h2.below c) Zo au (x h2));have OY:=qh (λ(w':World) (c:Bl f w')=>Kv H N l c3 o3 I O m c4 o4 w' f.heap.size c.size (h3.below c) Zo av (x h3) (h4.below c) Zo aw (x h4));have l1:=JV (s1:=C) (s2:=D) h1.rng h2.rng;have l2:=JV (s1:=H) (s2:=I) h3.rng h4.rng;rw[<- hx] at OX l1;rw[<- hy] at OY l2;obtain⟨p,hp⟩:=gn u.num;obtain⟨q,hq⟩:=gn (u.den:Int);obtain⟨r,hr⟩:=gn an.num;obtain⟨ac,ht⟩:=gn (an.den:Int);rw[<- hp,<- hq] at OX l1;rw[<- hr,<- ht] at OY l2;rw[<- hp,<- hq,<- hr,<- ht];have HL:=qh (show(Ja p.natAbs<=1000001/\Ja q.natAbs<=1000001)/\Ja r.natAbs<=1000001/\Ja ac.natAbs<=1000001 by omega);clear hp hq hr ht hx hy h1 h2 h3 h4 l1 l2 x;have J:=qh<|(((Bxs.new f 32 [.bool C,.slice Z A c1,.bool D,.slice a2 B c2]).alloc (.cells #[.bool H,.slice N l c3,.bool I,.slice O m c4] 32)).alloc (.cells zFv.toArray 206)).alloc (.cells #[.bool false,.slice none 0 0] 30);have K:=qh<|((Bxs.new (f.alloc (.cells #[.bool C,.slice Z A c1,.bool D,.slice a2 B c2] 32)) 32 [.bool H,.slice N l c3,.bool I,.slice O m c4]).alloc (.cells zFv.toArray 206)).alloc (.cells #[.bool false,.slice none 0 0] 30);have X:=qh<|(Bxs.new ((f.alloc (.cells #[.bool C,.slice Z A c1,.bool D,.slice a2 B c2] 32)).alloc (.cells #[.bool H,.slice N l c3,.bool I,.slice O m c4] 32)) 206 zFv).alloc (.cells #[.bool false,.slice none 0 0] 30)
 have Y:=qh<|Bxs.new (((f.alloc (.cells #[.bool C,.slice Z A c1,.bool D,.slice a2 B c2] 32)).alloc (.cells #[.bool H,.slice N l c3,.bool I,.slice O m c4] 32)).alloc (.cells zFv.toArray 206)) 30 [.bool false,.slice none 0 0];obtain⟨am,hW⟩:=gn ((((f.alloc (.cells #[.bool C,.slice Z A c1,.bool D,.slice a2 B c2] 32)).alloc (.cells #[.bool H,.slice N l c3,.bool I,.slice O m c4] 32)).alloc (.cells zFv.toArray 206)).alloc (.cells #[.bool false,.slice none 0 0] 30));have M:=qh<|bq hW ((((zk.alloc zj _).alloc (by go_size) _).alloc (by go_size) _).alloc (by go_size) _)
 have aj:f.heap.size+4=am.heap.size:=by rw[hW];simp
 have J:=qh<|bz hW J.o;have K:=qh (show Bxs am (f.heap.size+1) 32 [.bool H,.slice N l c3,.bool I,.slice O m c4] by have t:=K.o;simp only[World.size_alloc] at t;rw[hW];exact t);have X:=qh (show Bxs am (f.heap.size+1+1) 206 zFv by have t:=X.o;simp only[World.size_alloc] at t;rw[hW];exact t);have Y:=qh (show Bxs am (f.heap.size+1+1+1) 30 [.bool false,.slice none 0 0] by have t:=Y.o;simp only[World.size_alloc] at t;rw[hW];exact t);have HW:=qh hW;have ae:=qh aj;clear hW aj;go_enter func163,ntmps163
 go_upto_region 1 with (fail)
 rw[<- HW.o];clear HW;have v:=qh (λ(w':World) (c:Bl am w')=>And.intro (Jg (J.o.bl c)) (Jg (K.o.bl c)))
 refine Ji 3 (JI [(1,Sp.made (jhe p q) (λu w'=>Q7 w' f.heap.size (f.heap.size+4) p q u))]) (λw'=>Bl am w') Zk Zk
  (Jb (Sp.Jf λu f w' t c=>t.below c) Jh) (λ_ _ t c=>t.trans (c.mono t.size)) (zk.drew) ?_
 simp only[zx,zy,zv,zw];refine rdw (λw' d=>by obtain⟨Q,R,S,U,V,W⟩:=(v.o _ d).1;go_simp;try rfl) ?_;refine Jc rfl rfl (λw' y=>?_) ?_
 ·have d:=y.world;go_simp;refine(OX.o w' (M.o.trans (d.mono M.o.size))).mono ?_;intro e ad hh;obtain⟨z,rfl,hi,c⟩:=Q3 hh;exact⟨_,rfl,⟨⟨z.1,z.2.1,z.2.2.1,z.2.2.2,rfl⟩,⟨z.1,z.2.1,z.2.2.1,z.2.2.2,rfl,hi.up (by have:=d.size;have:=ae.o;omega)⟩⟩,c⟩
 rintro _ ⟨E,rfl⟩
 conv=>arg 10;simp only[Act.put,zq0,zq1,zq2]
 refine rdw (λw' d=>by obtain⟨Q,R,S,U,V,W⟩:=(v.o _ d).2;go_simp;try rfl) ?_;refine Jn (λw1 ak hF=>?_);have g:=qh<|jfy (hF 1);have G:=qh ak;clear hF ak;go_wp2_with fail
 have af:=qh<|OY.o w1 (M.o.trans (G.o.mono M.o.size));clear OX OY v;with_reducible refine af.o.mono ?_
 intro e w2 hh;obtain⟨F,rfl,hi,c⟩:=Q3 hh;have k:=qh<|hi.up (show f.heap.size+4<=w1.heap.size by have:=G.o.size;have:=ae.o;omega);have g:=qh<|g.o.below c;have G:=qk G c;clear hh hi c af;have M1:=qh<|J.o.below G.o J.o.lt;have M2:=qh<|K.o.below G.o K.o.lt;have M4:=qh<|X.o.below G.o X.o.lt;have M5:=qh<|Y.o.below G.o Y.o.lt;obtain⟨Q,R,S,U,V,W⟩:=Jg M1.o;obtain⟨y0,y1,y2,y3,y4,y5⟩:=Jg M2.o
 go_upto_region 2 with (fail)
 obtain⟨aa,P⟩:=gn ((((((((w2.setCell ⟨f.heap.size,0,none⟩ (.bool (decide (p<0)))).setCell ⟨f.heap.size,1,none⟩ (.slice E.1 (Ja p.natAbs) E.2.1)).setCell ⟨f.heap.size,2,none⟩ (.bool (decide (q<0)))).setCell ⟨f.heap.size,3,none⟩ (.slice E.2.2.1 (Ja q.natAbs) E.2.2.2)).setCell ⟨f.heap.size+1,0,none⟩ (.bool (decide (r<0)))).setCell ⟨f.heap.size+1,1,none⟩ (.slice F.1 (Ja r.natAbs) F.2.1)).setCell ⟨f.heap.size+1,2,none⟩ (.bool (decide (ac<0)))).setCell ⟨f.heap.size+1,3,none⟩ (.slice F.2.2.1 (Ja ac.natAbs) F.2.2.2));have M1:=qh<|bw P ((((((((M1.o.put 0 _).put 1 _).put 2 _).put 3 _).oz).oz).oz).oz);have M2:=qh<|bw P ((((((((M2.o.oz).oz).oz).oz).put 0 _).put 1 _).put 2 _).put 3 _);have M4:=qh<|bz P ((((((((M4.o.oz).oz).oz).oz).oz).oz).oz).oz);have M5:=qh<|bz P ((((((((M5.o.oz).oz).oz).oz).oz).oz).oz).oz);have g:=qh (show Q7 aa f.heap.size (f.heap.size+4) p q E by rw[P];exact((((((((g.o.sz).sz).sz).sz).sz).sz).sz).sz));have k:=qh (show Q7 aa f.heap.size (f.heap.size+4) r ac F by rw[P];exact((((((((k.o.sz).sz).sz).sz).sz).sz).sz).sz));have hG:=M.o.trans (G.o.mono M.o.size);have M:=qh<|bq P ((((((((hG.sc).sc).sc).sc).sc).sc).sc).sc);rw[<- P];clear P hG Q R S U V W y0 y1 y2 y3 y4 y5 J K X Y G;obtain⟨i,ah⟩:=gn (p*ac);obtain⟨j,ai⟩:=gn (r*q);obtain⟨h,ag⟩:=gn (q*ac);have HT:=qh<|And.intro ah (And.intro ai ag);clear ah ai ag;have MA:=qh (λ(w':World) (c:Bl aa w')=>Kb (decide (p<0)) E.1 (Ja p.natAbs) E.2.1 (dgi p.natAbs) (decide (ac<0)) F.2.2.1 (Ja ac.natAbs) F.2.2.2 (dgi ac.natAbs) w' (g.o.r1.rd.below c) (Zh HL) g.o.c1 (k.o.r2.rd.below c) (Zh HL) k.o.c2)
 rw[Jl,Jl,<- HT.o.1] at MA;have MB:=qh (λ(w':World) (c:Bl aa w')=>Kb (decide (r<0)) F.1 (Ja r.natAbs) F.2.1 (dgi r.natAbs) (decide (q<0)) E.2.2.1 (Ja q.natAbs) E.2.2.2 (dgi q.natAbs) w' (k.o.r1.rd.below c) (Zh HL) k.o.c1 (g.o.r2.rd.below c) (Zh HL) g.o.c2);rw[Jl,Jl,<- HT.o.2.1] at MB;have MC:=qh (λ(w':World) (c:Bl aa w')=>Kb (decide (q<0)) E.2.2.1 (Ja q.natAbs) E.2.2.2 (dgi q.natAbs) (decide (ac<0)) F.2.2.1 (Ja ac.natAbs) F.2.2.2 (dgi ac.natAbs) w' (g.o.r2.rd.below c) (Zh HL) g.o.c2 (k.o.r2.rd.below c) (Zh HL) k.o.c2);rw[Jl,Jl,<- HT.o.2.2] at MC;have v:=qh (λ(w':World) (c:Bl aa w')=>And.intro (Jg (M1.o.bl c)) (Jg (M2.o.bl c)))
 refine Ji 16 (JI [(4,Sp.made (λu:Option Addr=>Jv (decide (i<0)) u (Ja i.natAbs) (Ja i.natAbs)) (λu w'=>Own 128 w' aa.heap.size u (Ja i.natAbs) (Ja i.natAbs) (dgi i.natAbs))),(9,Sp.made (λu:Option Addr=>Jv (decide (j<0)) u (Ja j.natAbs) (Ja j.natAbs)) (λu w'=>Own 128 w' aa.heap.size u (Ja j.natAbs) (Ja j.natAbs) (dgi j.natAbs))),(15,Sp.made (λu:Option Addr=>Jv (decide (h<0)) u (Ja h.natAbs) (Ja h.natAbs)) (λu w'=>Own 128 w' aa.heap.size u (Ja h.natAbs) (Ja h.natAbs) (dgi h.natAbs)))]) (λw'=>Bl aa w') Zk Zk
  (Jb (Sp.Jf λu f w' t c=>t.below c) (Jb (Sp.Jf λu f w' t c=>t.below c) (Jb (Sp.Jf λu f w' t c=>t.below c) Jh))) (λ_ _ t c=>t.trans (c.mono t.size)) (zk.drew) ?_
 simp only[zx,zy,zv,zw]
 iterate 4
  refine rdw (λw' d=>by obtain⟨Q,R,S,U,V,W⟩:=(v.o _ d).1;obtain⟨Q,R,S,U,V,W⟩:=(v.o _ d).2;go_simp;try rfl) ?_
 (refine Jc rfl rfl (λw' y=>?_) ?_;· (have d:=Has.world y;go_simp;((refine(MA.o w' d).mono ?_;rintro e ad ⟨a,rfl,ho,-,c⟩;exact⟨_,rfl,⟨⟨a,rfl⟩,⟨a,rfl,ho.mono d.size⟩⟩,c⟩))))
 rintro _ ⟨ma,rfl⟩
 conv=>arg 10;simp only[Act.put,zq0,zq1,zq2]
 iterate 4
  refine rdw (λw' d=>by obtain⟨Q,R,S,U,V,W⟩:=(v.o _ d).2;obtain⟨Q,R,S,U,V,W⟩:=(v.o _ d).1;go_simp;try rfl) ?_
 (refine Jc rfl rfl (λw' y=>?_) ?_;· (have d:=Has.world y;go_simp;((refine(MB.o w' d).mono ?_;rintro e ad ⟨a,rfl,ho,-,c⟩;exact⟨_,rfl,⟨⟨a,rfl⟩,⟨a,rfl,ho.mono d.size⟩⟩,c⟩))))
 rintro _ ⟨mb,rfl⟩
 conv=>arg 10;simp only[Act.put,zq0,zq1,zq2]
 iterate 5
  refine rdw (λw' d=>by obtain⟨Q,R,S,U,V,W⟩:=(v.o _ d).1;obtain⟨Q,R,S,U,V,W⟩:=(v.o _ d).2;go_simp;try rfl) ?_
 (refine Jc rfl rfl (λw' y=>?_) ?_;· (have d:=Has.world y;go_simp;((refine(MC.o w' d).mono ?_;rintro e ad ⟨a,rfl,ho,-,c⟩;exact⟨_,rfl,⟨⟨a,rfl⟩,⟨a,rfl,ho.mono d.size⟩⟩,c⟩))))
 rintro _ ⟨mc,rfl⟩
 conv=>arg 10;simp only[Act.put,zq0,zq1,zq2]
 refine Jn (λw3 ab hF=>?_);have HO:=qh<|And.intro (X8 (T:=128) (b:=aa.heap.size) (s:=decide (i<0)) (L:=Ja i.natAbs) (o:=dgi i.natAbs) (a:=ma) (hF 4)) (And.intro (X8 (T:=128) (b:=aa.heap.size) (s:=decide (j<0)) (L:=Ja j.natAbs) (o:=dgi j.natAbs) (a:=mb) (hF 9)) (X8 (T:=128) (b:=aa.heap.size) (s:=decide (h<0)) (L:=Ja h.natAbs) (o:=dgi h.natAbs) (a:=mc) (hF 15)));have N4:=qh<|M4.o.bl ab;have N5:=qh<|M5.o.bl ab;have aq:=qh<|M.o.trans (ab.mono M.o.size);have ao:=qh (show f.heap.size+4<=aa.heap.size by have:=M5.o.lt;omega);clear hF ab v MA MB MC;obtain⟨z0,z1,z2,z3,zf,zl⟩:=N4.o.d4;obtain⟨y0,y1,y2,y3⟩:=N5.o.bx.all;go_wp2_with fail
 have aB:=ao.o;rw[<- HT.o.1,<- HT.o.2.1,<- HT.o.2.2];have k4:=((((((N4.o.put 0 (.bool (decide (i<0)))).put 1 (.slice ma (Ja i.natAbs) (Ja i.natAbs))).put 2 (.bool (decide (j<0)))).put 3 (.slice mb (Ja j.natAbs) (Ja j.natAbs))).other (a:=⟨f.heap.size+1+1+1,0,none⟩) Zd (.bool (decide (h<0)))).other (a:=⟨f.heap.size+1+1+1,1,none⟩) Zd (.slice mc (Ja h.natAbs) (Ja h.natAbs)));have k5:=((((((N5.o.other (a:=⟨f.heap.size+1+1,0,none⟩) Zd (.bool (decide (i<0)))).other (a:=⟨f.heap.size+1+1,1,none⟩) Zd (.slice ma (Ja i.natAbs) (Ja i.natAbs))).other (a:=⟨f.heap.size+1+1,2,none⟩) Zd (.bool (decide (j<0)))).other (a:=⟨f.heap.size+1+1,3,none⟩) Zd (.slice mb (Ja j.natAbs) (Ja j.natAbs))).put 0 (.bool (decide (h<0)))).put 1 (.slice mc (Ja h.natAbs) (Ja h.natAbs)));refine bodyPost_ret (jhf rfl _ _ _ _ _ _ _ _ _ _ _ _ rfl k4 rfl k5 underlying206 rfl Zk underlying30 rfl Zk) rfl ⟨ma,mb,mc,rfl,?_,?_,?_,?_⟩
 ·exact((((((HO.o.1.oz).oz).oz).oz).oz).oz).mono Zo
 ·exact((((((HO.o.2.1.oz).oz).oz).oz).oz).oz).mono Zo
 ·exact((((((HO.o.2.2.oz).oz).oz).oz).oz).oz).mono Zo
 ·exact((((((aq.o.sc).sc).sc).sc).sc).sc)
theorem Jo (a b:Nat):Ja (a*b)<=Ja a+Ja b:=by
 refine Xg ?_;rw[V4];by_cases d:b=0
 ·subst d;have:=JE a;have c:=JE 0;exact Nat.mul_pos Zo c
 ·exact Nat.mul_lt_mul_of_lt_of_le (JE a) (Nat.le_of_lt (JE b)) (Q5 _)
theorem jch (aq:Nat) (cs:Array Value) (F:Int) (n:Bool) (G:Option Addr) (l c1:Nat) (o1:Nat->Int) (r:Bool) (H:Option Addr) (m c2:Nat) (o2:Nat->Int) (v:Bool) (z:Option Addr) (j c3:Nat) (o3:Nat->Int) (x:Bool) (A:Option Addr) (k c4:Nat) (o4:Nat->Int) (y:World) (g t:Rat)
  (hx:g=Xv n l o1 r m o2) (hy:t=Xv v j o3 x k o4)
  (h1:Rd y G l o1) (aj:l<=1000000) (ae:l<=c1) (h2:Rd y H m o2) (ak:m<=1000000) (af:m<=c2) (h3:Rd y z j o3) (am:j<=1000000) (ag:j<=c3) (h4:Rd y A k o4) (an:k<=1000000) (ah:k<=c4)
  (ai:∀ (S:Array Value) (y:World),(callFunc aq S).run prog y=.ok (.enter aq S) y)
  (hT:Ja F.natAbs<=4000000)
  (hF:∀ (D E:Option Addr) (X:World),Bl y X->Rd X D (Ja (g.num*(t.den:Int)).natAbs) (dgi (g.num*(t.den:Int)).natAbs)->Rd X E (Ja (t.num*(g.den:Int)).natAbs) (dgi (t.num*(g.den:Int)).natAbs) ->
   Cl aq (#[Jv (decide (g.num*(t.den:Int)<0)) D (Ja (g.num*(t.den:Int)).natAbs) (Ja (g.num*(t.den:Int)).natAbs),Jv (decide (t.num*(g.den:Int)<0)) E (Ja (t.num*(g.den:Int)).natAbs) (Ja (t.num*(g.den:Int)).natAbs)]++cs) X (VJ X F)) :
  Cl 103 #[J4 n G l c1 r H m c2,J4 v z j c3 x A k c4,.func (.func aq) #[] cs] y (Ki y (Rat.divInt F ((g.den:Int)*(t.den:Int))).num ((Rat.divInt F ((g.den:Int)*(t.den:Int))).den:Int)):=by
 have l1:=JV (s1:=n) (s2:=r) h1.rng h2.rng;have l2:=JV (s1:=v) (s2:=x) h3.rng h4.rng;rw[<- hx] at l1;rw[<- hy] at l2
 have HL:=qh (show Ja ((g.den:Int)*(t.den:Int)).natAbs<=4000000 by
  have:=Jo (g.den:Int).natAbs (t.den:Int).natAbs;rw[Int.natAbs_mul]
  omega)
 have HD:=qh<|show(g.den:Int)*(t.den:Int)≠0 from Int.mul_ne_zero (by have:=g.den_nz;omega) (by have:=t.den_nz;omega);have J:=qh<|((Bxs.new y 32 [.bool n,.slice G l c1,.bool r,.slice H m c2]).alloc (.cells #[.bool v,.slice z j c3,.bool x,.slice A k c4] 32)).alloc (.cells zFv.toArray 32);have K:=qh<|(Bxs.new (y.alloc (.cells #[.bool n,.slice G l c1,.bool r,.slice H m c2] 32)) 32 [.bool v,.slice z j c3,.bool x,.slice A k c4]).alloc (.cells zFv.toArray 32);have M:=qh<|Bxs.new ((y.alloc (.cells #[.bool n,.slice G l c1,.bool r,.slice H m c2] 32)).alloc (.cells #[.bool v,.slice z j c3,.bool x,.slice A k c4] 32)) 32 zFv;obtain⟨aa,I⟩:=gn (((y.alloc (.cells #[.bool n,.slice G l c1,.bool r,.slice H m c2] 32)).alloc (.cells #[.bool v,.slice z j c3,.bool x,.slice A k c4] 32)).alloc (.cells zFv.toArray 32));have f:=qh<|bq I (((zk.alloc zj _).alloc (by go_size) _).alloc (by go_size) _)
 have ab:y.heap.size+3=aa.heap.size:=by rw[I];simp
 have J:=qh<|bz I J.o;have K:=qh (show Bxs aa (y.heap.size+1) 32 [.bool v,.slice z j c3,.bool x,.slice A k c4] by have P:=K.o;simp only[World.size_alloc] at P;rw[I];exact P);have M:=qh (show Bxs aa (y.heap.size+1+1) 32 zFv by have P:=M.o;simp only[World.size_alloc] at P;rw[I];exact P);have BR:=qh<|VP n G l c1 o1 r H m c2 o2 v z j c3 o3 x A k c4 o4 aa g t hx hy (h1.below f.o) aj ae (h2.below f.o) ak af (h3.below f.o) am ag (h4.below f.o) an ah;obtain⟨h,U⟩:=gn (g.num*(t.den:Int));obtain⟨i,V⟩:=gn (t.num*(g.den:Int));obtain⟨d,T⟩:=gn ((g.den:Int)*(t.den:Int));rw[<- U,<- V] at hF;rw[<- U,<- V,<- T] at BR;rw[<- T] at HL HD ⊢;have HF:=qh hF;have HT:=qh hT;have HW:=qh I;have R:=qh ab;clear hF I ab U V T hx hy h1 h2 h3 h4 l1 l2 hT;go_enter func103,ntmps103
 go_upto_region 1 with (fail)
 rw[<- HW.o];clear HW;obtain⟨x0,x1,x2,x3,x4,x5⟩:=Jg J.o;obtain⟨y0,y1,y2,y3,y4,y5⟩:=Jg K.o;go_wp2_with fail
 with_reducible refine BR.o.mono ?_
 rintro e Y ⟨D,E,W,rfl,O1,O2,O3,c⟩
 go_upto_region 2 with (fail)
 obtain⟨Z,B⟩:=gn ((Y.alloc (.cells #[.bool (decide (h<0)),.slice D (Ja h.natAbs) (Ja h.natAbs),.bool (decide (i<0)),.slice E (Ja i.natAbs) (Ja i.natAbs)] 206)).alloc (.cells #[.bool (decide (d<0)),.slice W (Ja d.natAbs) (Ja d.natAbs)] 30));have M4:=qh<|bz B ((Bxs.new Y 206 [.bool (decide (h<0)),.slice D (Ja h.natAbs) (Ja h.natAbs),.bool (decide (i<0)),.slice E (Ja i.natAbs) (Ja i.natAbs)]).alloc _);have M5:=qh (show Bxs Z (Y.heap.size+1) 30 [.bool (decide (d<0)),.slice W (Ja d.natAbs) (Ja d.natAbs)] by have P:=Bxs.new (Y.alloc (.cells #[.bool (decide (h<0)),.slice D (Ja h.natAbs) (Ja h.natAbs),.bool (decide (i<0)),.slice E (Ja i.natAbs) (Ja i.natAbs)] 206)) 30 [.bool (decide (d<0)),.slice W (Ja d.natAbs) (Ja d.natAbs)];simp only[World.size_alloc] at P;rw[B];exact P)
 have N:Bl aa Z:=by rw[B];exact(c.alloc c.size _).alloc (by have:=c.size;go_size) _
 have O:=qh<|M.o.bl N;have O1:=qh (show Own 128 Z aa.heap.size D (Ja h.natAbs) (Ja h.natAbs) (dgi h.natAbs) by rw[B];exact(O1.JD _).JD _);have O2:=qh (show Own 128 Z aa.heap.size E (Ja i.natAbs) (Ja i.natAbs) (dgi i.natAbs) by rw[B];exact(O2.JD _).JD _);have O3:=qh (show Own 128 Z aa.heap.size W (Ja d.natAbs) (Ja d.natAbs) (dgi d.natAbs) by rw[B];exact(O3.JD _).JD _);have f:=qk f N;have KW:=qh N.size;obtain⟨b4,ac⟩:=gn Y.heap.size;rw[<- B];rw[<- ac] at M4 M5 ⊢;clear B N c ac x0 x1 x2 x3 x4 x5 y0 y1 y2 y3 y4 y5 J K M BR;have HS:=qh (λ(w':World) (c:Bl Z w')=>And.intro (M4.o.bl c) (M5.o.bl c).bx.all);have HC:=qh (λ(w':World) (c:Bl Z w')=>HF.o D E w' (f.o.trans (c.mono f.o.size)) (O1.o.rd.below c) (O2.o.rd.below c))
 refine Ji 7 (JI [(5,Sp.made (λg:Option Addr=>Jv (decide (F<0)) g (Ja F.natAbs) (Ja F.natAbs)) (λg w'=>Own 128 w' Z.heap.size g (Ja F.natAbs) (Ja F.natAbs) (dgi F.natAbs)))]) (λw'=>Bl Z w') Zk Zk
  (Jb (Sp.Jf λg y w' P c=>P.below c) Jh) (λ_ _ P c=>P.trans (c.mono P.size)) (zk.drew) ?_
 simp only[zx,zy,zv,zw]
 iterate 5
  refine rdw (λw' u=>by have Q:=(HS.o _ u).1;have x0:=Q.ce 0;have x1:=Q.ce 1;have x2:=Q.ce 2;have x3:=Q.ce 3;have x4:=Q.fz;have x5:=Q.lt;go_simp;try rfl) ?_
 (refine Jc rfl rfl (λw' ao=>?_) ?_;· (have u:=Has.world ao;go_simp;((refine(HC.o w' u).mono ?_;rintro e au ⟨a,rfl,ho,-,c⟩;exact⟨_,rfl,⟨⟨a,rfl⟩,⟨a,rfl,ho.mono u.size⟩⟩,c⟩))))
 rintro _ ⟨mt,rfl⟩
 conv=>arg 10;simp only[Act.put,zq0,zq1,zq2]
 refine rdw (λw' u=>by obtain⟨x0,x1,x2,x3⟩:=(HS.o _ u).2;go_simp;try rfl) ?_;refine Jn (λw3 C hF=>?_);have HO:=qh<|X8 (T:=128) (b:=Z.heap.size) (s:=decide (F<0)) (L:=Ja F.natAbs) (o:=dgi F.natAbs) (a:=mt) (hF 5);have LO:=qh<|UF F d mt W (Ja F.natAbs) (Ja d.natAbs) w3 HO.o.rd HT.o zj (O3.o.rd.below C) HL.o zj HD.o;have O:=qh<|O.o.bl C;have f:=qk f C;have R:=qh (show y.heap.size+3<=w3.heap.size by have:=R.o;have:=KW.o;have:=C.size;omega);clear hF C HS HC HF HO O1 O2 O3 M4 M5 ai KW;go_wp2_with fail
 with_reducible refine LO.o.mono ?_
 rintro e w4 ⟨r1,r2,rfl,Q1,Q2,ad,c⟩;have O:=qh<|O.o.bl c;have f:=qk f c;have ar:=R.o;clear c LO;obtain⟨z0,z1,z2,z3,zf,zl⟩:=O.o.d4;go_wp2;refine bodyPost_ret (Je rfl _ _ _ _ _ _ _ rfl ((((O.o.put 0 _).put 1 _).put 2 _).put 3 _) underlying32 rfl Zk) rfl ⟨r1,r2,rfl,?_,?_,ad,?_⟩
 ·exact((((Q1.oz).oz).oz).oz).mono Zo
 ·exact((((Q2.oz).oz).oz).oz).mono Zo
 ·exact(((f.o.sc).sc).sc).sc
theorem UG (a b:Rat):Rat.divInt (a.num*(b.den:Int)+b.num*(a.den:Int)) ((a.den:Int)*(b.den:Int))=a+b:=by
 rw[Rat.add_def'];rw[<- Rat.divInt_ofNat,Int.natCast_mul]
theorem jci (c n k:Nat) (a:Ja c<=k) (b:Ja n<=k):Ja (c+n)<=k+1:=by
 refine Xg ?_;have d:=Nat.lt_of_lt_of_le (JE c) (jd0 a);have f:=Nat.lt_of_lt_of_le (JE n) (jd0 b);rw[JR];omega
theorem Y0 (a b:Int):Ja (a+b).natAbs<=max (Ja a.natAbs) (Ja b.natAbs)+1 :=
 zm (JP (Int.natAbs_add_le a b)) (jci _ _ _ Zo Zo)
theorem lenB_sub (a b:Int):Ja (a-b).natAbs<=max (Ja a.natAbs) (Ja b.natAbs)+1 :=
 zm (JP (Int.natAbs_sub_le a b)) (jci _ _ _ Zo Zo)
theorem addc_any (f:Bool) (g:Option Addr) (b c1:Nat) (o:Nat->Int) (c:Bool) (d:Option Addr) (a c2:Nat) (r:Nat->Int) (m:World)
  (y:Rd m g b o) (D:b<=100000000) (B:b<=c1) (z:Rd m d a r) (E:a<=100000000) (C:a<=c2) :
  Cl 169 #[Jv f g b c1,Jv c d a c2] m (VJ m (Jp f b o+Jp c a r)):=by
 have i:=qh<|((Bxs.new m 30 [.bool f,.slice g b c1]).alloc (.cells #[.bool c,.slice d a c2] 30)).alloc (.cells #[.bool false,.slice none 0 0] 30);have j:=qh<|(Bxs.new (m.alloc (.cells #[.bool f,.slice g b c1] 30)) 30 [.bool c,.slice d a c2]).alloc (.cells #[.bool false,.slice none 0 0] 30);have k:=qh<|Bxs.new ((m.alloc (.cells #[.bool f,.slice g b c1] 30)).alloc (.cells #[.bool c,.slice d a c2] 30)) 30 [.bool false,.slice none 0 0];obtain⟨F,h⟩:=gn (((m.alloc (.cells #[.bool f,.slice g b c1] 30)).alloc (.cells #[.bool c,.slice d a c2] 30)).alloc (.cells #[.bool false,.slice none 0 0] 30));have l:=qh<|bq h (((zk.alloc zj _).alloc (by go_size) _).alloc (by go_size) _)
 have s:m.heap.size+3=F.heap.size:=by rw[h];simp
 have i:=qh<|bz h i.o;have j:=qh (show Bxs F (m.heap.size+1) 30 [.bool c,.slice d a c2] by have x:=j.o;simp only[World.size_alloc] at x;rw[h];exact x);have k:=qh (show Bxs F (m.heap.size+1+1) 30 [.bool false,.slice none 0 0] by have x:=k.o;simp only[World.size_alloc] at x;rw[h];exact x);have BR:=qh<|jdj f g b c1 o c d a c2 r F (y.below l.o) D B (z.below l.o) E C;obtain⟨Y,A⟩:=gn (Jp f b o+Jp c a r);rw[<- A] at BR ⊢;have t:=qh h;have u:=qh s;clear h s y z A;go_enter func169,ntmps169
 go_upto_region 1 with (fail)
 rw[<- t.o];clear t;obtain⟨I,J,K,L⟩:=i.o.bx.all;obtain⟨M,N,O,P⟩:=j.o.bx.all;go_wp2_with fail
 with_reducible refine BR.o.mono ?_
 rintro e T ⟨S,rfl,G,H,n⟩;have v:=qh<|k.o.bl n;have l:=qk l n;have R:=u.o;have Q:=n.size;clear I J K L M N O P i j k BR n;obtain⟨U,V,W,X⟩:=v.o.bx.all;go_wp2;refine bodyPost_ret (Je rfl _ _ _ _ _ _ _ rfl ((v.o.put 0 _).put 1 _) underlying30 rfl Zk) rfl ⟨S,rfl,?_,H,?_⟩
 ·exact((G.oz).oz).mono Zo
 ·exact(l.o.sc).sc
theorem fadd_any (f:Bool) (o:Option Addr) (c c1:Nat) (J:Nat->Int) (g:Bool) (r:Option Addr) (d c2:Nat) (K:Nat->Int) (j:Bool) (l:Option Addr) (a c3:Nat) (L:Nat->Int) (k:Bool) (m:Option Addr) (b c4:Nat) (M:Nat->Int) (x:World) (h i:Rat)
  (H:h=Xv f c J g d K) (I:i=Xv j a L k b M)
  (D:Rd x o c J) (Y:c<=1000000) (U:c<=c1) (E:Rd x r d K) (Z:d<=1000000) (V:d<=c2) (F:Rd x l a L) (aa:a<=1000000) (W:a<=c3) (G:Rd x m b M) (ab:b<=1000000) (X:b<=c4) :
  Cl 109 #[J4 f o c c1 g r d c2,J4 j l a c3 k m b c4] x (Ki x (h+i).num ((h+i).den:Int)):=by
 have l1:=JV (s1:=f) (s2:=g) D.rng E.rng;have l2:=JV (s1:=j) (s2:=k) F.rng G.rng;rw[<- H] at l1;rw[<- I] at l2;have B:=Jo h.num.natAbs (i.den:Int).natAbs;have C:=Jo i.num.natAbs (h.den:Int).natAbs;rw[<- Int.natAbs_mul] at B C;have t:=qh<|((Bxs.new x 32 [.bool f,.slice o c c1,.bool g,.slice r d c2]).alloc (.cells #[.bool j,.slice l a c3,.bool k,.slice m b c4] 32)).alloc (.cells zFv.toArray 32);have u:=qh<|(Bxs.new (x.alloc (.cells #[.bool f,.slice o c c1,.bool g,.slice r d c2] 32)) 32 [.bool j,.slice l a c3,.bool k,.slice m b c4]).alloc (.cells zFv.toArray 32);have v:=qh<|Bxs.new ((x.alloc (.cells #[.bool f,.slice o c c1,.bool g,.slice r d c2] 32)).alloc (.cells #[.bool j,.slice l a c3,.bool k,.slice m b c4] 32)) 32 zFv;obtain⟨ac,s⟩:=gn (((x.alloc (.cells #[.bool f,.slice o c c1,.bool g,.slice r d c2] 32)).alloc (.cells #[.bool j,.slice l a c3,.bool k,.slice m b c4] 32)).alloc (.cells zFv.toArray 32));have n:=qh<|bq s (((zk.alloc zj _).alloc (by go_size) _).alloc (by go_size) _)
 have A:x.heap.size+3=ac.heap.size:=by rw[s];simp
 have t:=qh<|bz s t.o;have u:=qh (show Bxs ac (x.heap.size+1) 32 [.bool j,.slice l a c3,.bool k,.slice m b c4] by have z:=u.o;simp only[World.size_alloc] at z;rw[s];exact z);have v:=qh (show Bxs ac (x.heap.size+1+1) 32 zFv by have z:=v.o;simp only[World.size_alloc] at z;rw[s];exact z)
 have BR:=qh (jch 169 #[] (h.num*(i.den:Int)+i.num*(h.den:Int)) f o c c1 J g r d c2 K j l a c3 L k m b c4 M ac h i H I (D.below n.o) Y U (E.below n.o) Z V (F.below n.o) aa W (G.below n.o) ab X
  (λ_ _=>rfl)
  (by have:=Y0 (h.num*(i.den:Int)) (i.num*(h.den:Int));omega)
  (λm1 m2 w1 _ N O=>by
   have z:=addc_any (decide (h.num*(i.den:Int)<0)) m1 _ (Ja (h.num*(i.den:Int)).natAbs) _ (decide (i.num*(h.den:Int)<0)) m2 _ (Ja (i.num*(h.den:Int)).natAbs) _ w1 N Zo zj O Zo zj;rw[Jl,Jl] at z
   exact z))
 have S:Rat.divInt (h.num*(i.den:Int)+i.num*(h.den:Int)) ((h.den:Int)*(i.den:Int))=h+i:=UG h i;rw[S] at BR;obtain⟨af,ht⟩:=gn (h+i);rw[<- ht] at BR ⊢;have P:=qh s;have Q:=qh A;clear s A D E F G S ht H I l1 l2 B C;go_enter func109,ntmps109
 go_upto_region 1 with (fail)
 rw[<- P.o];clear P;obtain⟨x0,x1,x2,x3,x4,x5⟩:=Jg t.o;obtain⟨y0,y1,y2,y3,y4,y5⟩:=Jg u.o;go_wp2_with fail
 with_reducible refine BR.o.mono ?_
 rintro e w4 ⟨N,O,rfl,Q1,Q2,T,y⟩;have R:=qh<|v.o.bl y;have n:=qk n y;have ae:=Q.o;have ad:=y.size;clear x0 x1 x2 x3 x4 x5 y0 y1 y2 y3 y4 y5 t u v BR y;obtain⟨z0,z1,z2,z3,zf,zl⟩:=Jg R.o;go_wp2;refine bodyPost_ret (Je rfl _ _ _ _ _ _ _ rfl ((((R.o.put 0 _).put 1 _).put 2 _).put 3 _) underlying32 rfl Zk) rfl ⟨N,O,rfl,?_,?_,T,?_⟩
 ·exact((((Q1.oz).oz).oz).oz).mono Zo
 ·exact((((Q2.oz).oz).oz).oz).mono Zo
 ·exact(((n.o.sc).sc).sc).sc
theorem UH (c:Bool) (a:Option Addr) (b c1:Nat) (g:Bool) (d:Option Addr) (f c2:Nat) (h:World):(Instr.field 32 (J4 c a b c1 g d f c2) 0).run prog h=.ok (Jv c a b c1) h:=by kernel_rfl
theorem jkc (h:Bool) (l:Option Addr) (d c1:Nat) (A:Nat->Int) (i:Bool) (m:Option Addr) (f c2:Nat) (B:Nat->Int) (x:World) (K:Rat) (z:K=Xv h d A i f B)
  (t:Rd x l d A) (X:d<=1000000) (E:d<=c1) (u:Rd x m f B) (Y:f<=1000000) (F:f<=c2) :
  Cl 110 #[J4 h l d c1 i m f c2] x λe w'=>e=.returned (.int .i64 (Js K.num 0))/\Bl x w':=by
 have g:∀ {a:Option Addr} {n:Nat} {o:Nat->Int},Rd x a n o->0<n->∀ p,a=some p->p.block<x.heap.size:=λaa D p k=>by
  obtain⟨b,off,e,N⟩:=aa.cells D
  rw[e] at k;cases k
  exact block_lt_of_cell (N 0 D)
 have I:=JV (s1:=h) (s2:=i) t.rng u.rng;rw[<- z] at I;have HL:=qh (show Ja K.num.natAbs<=1000001 by omega);have j:=qh<|Bxs.new x 32 [.bool h,.slice l d c1,.bool i,.slice m f c2];obtain⟨Z,v⟩:=gn (x.alloc (.cells #[.bool h,.slice l d c1,.bool i,.slice m f c2] 32));have c:=qh<|bq v (zk.alloc zj _);have j:=qh<|bz v j.o;have s:=qh<|Kv h l d c1 A i m f c2 B Z x.heap.size c.o.size (t.below c.o) Zo E (g t) (u.below c.o) Zo F (g u);rw[<- z] at s;obtain⟨p,k⟩:=gn K.num;obtain⟨q,H⟩:=gn (K.den:Int);rw[<- k,<- H] at s;rw[<- k] at HL ⊢;have C:=qh v;clear v t u I g z k H;go_enter func110,ntmps110
 go_upto_region 1 with (fail)
 rw[<- C.o];clear C;obtain⟨O,P,Q,R,S,T⟩:=Jg j.o;go_wp2_with fail
 with_reducible refine s.o.mono ?_
 intro e J G;obtain⟨⟨L,M,U,V⟩,rfl,hi,r⟩:=Q3 G;have W:=UH (decide (p<0)) L (Ja p.natAbs) M (decide (q<0)) U (Ja q.natAbs) V J;have y:=qh<|Kr (decide (p<0)) L (Ja p.natAbs) M (dgi p.natAbs) J hi.r1.rd (Zh HL) hi.c1;rw[Jl] at y;have c:=qk c r;clear G hi r s O P Q R S T j;go_wp2_with fail
 with_reducible refine y.o.mono ?_
 rintro e w3 ⟨rfl,r⟩;have c:=qk c r;clear r y;go_wp2;go_ret;exact⟨rfl,c.o⟩
end Limb
namespace Book
open Go.RowKit Go.Sort Go.FreshH Limb
variable {b base k q:Nat} {w w':World}
structure HL where
 a:Option Addr
 n:Nat
 c:Nat
 q:Nat
def HL.row (h:HL):List Value:=held h.a h.n h.c h.q
theorem HL.snoc (c:List HL) (a:Option Addr) (n d f:Nat):(c++[(⟨a,n,d,f⟩:HL)]).flatMap HL.row=c.flatMap HL.row++held a n d f:=by
 rw[List.flatMap_append,List.flatMap_cons,List.flatMap_nil,List.append_nil];rfl
structure BkS (w:World) (b base q:Nat) (L M:List HL):Prop where
 ex:∃ v u,Bk2 w b base q L.length M.length v u (L.flatMap HL.row) (M.flatMap HL.row)/\(L=[]->v=.slice none 0 0)/\(M=[]->u=.slice none 0 0)
 hb:base<=b
 hw:base<=w.heap.size
def rowB (T:TypeId):Bool:=T==59 || T==127 || T==120
structure Qz (base:Nat) (w w':World):Prop where
 bel:Below base w w'
 rows:∀ (g:Nat) (c:Array Value) (T:TypeId),w.heap[g]?=some (.cells c T (0,0))->rowB T=false->w'.heap[g]?=w.heap[g]?
theorem Qz.trans {i v:World} (g:Qz base i v) (h:Qz base v w):Qz base i w:=⟨g.bel.trans h.bel,λk f d c a=>(h.rows k f d ((g.rows k f d c a).trans c) a).trans (g.rows k f d c a)⟩
theorem Qz.refl (base:Nat) (a:World):Qz base a a:=⟨zk,λ_ _ _ _ _=>rfl⟩
theorem Qz.alloc (a:base<=w.heap.size) (o:Obj):Qz base w (w.alloc o):=⟨zk.alloc a o,λf d c hg _=>heap_alloc_old w o (by
 exact Classical.byContradiction λg=>by rw[Array.getElem?_eq_none Zo] at hg;cases hg)⟩
theorem Bxs.QA {a:TypeId} {g:List Value} (f:Bxs w b a g) (d:Qz base w w') (c:rowB a=false):Bxs w' b a g:=(d.rows b _ a f c).trans f
def VW (b base q:Nat) (L M:List HL) (w:World) (e:Ending) (w':World):Prop:=(∃ r,e=.returned r)/\BkS w' b base q L M/\Qz base w w'
theorem jfz {sz:Nat} {i:TypeId} {v:Value} {h:List Value} (l:w.ownsRow base i sz v k h) {f:Nat} (hg:v.ownBlock=some f):base<=f/\∃ a,w.heap[f]?=some (.cells a i (0,0)):=by
 rcases l.2 with ⟨rfl,-⟩ | ⟨g,j,a,rfl,d,c,-⟩
 ·cases hg
 ·have e:some g=some f:=hg
  injection e with e
  subst e;exact⟨d,a,c⟩
theorem UI {t:Nat} {v y:Value} {u x:List Value} (i:Bk2 w b base q k t v y u x) (z:base<=b) (A:base<=w.heap.size) {o:Value} (s:o=v\/o=y) (f:Touch (λd=>d=b\/o.ownBlock=some d) w w'):Qz base w w':=by
 have g:∀ d,o.ownBlock=some d->base<=d/\∃ c j,w.heap[d]?=some (.cells c j (0,0))/\rowB j=true:=λd hg=>by
  rcases s with rfl | rfl
  ·obtain⟨h,c,a⟩:=jfz i.Kw hg;exact⟨h,c,_,a,rfl⟩
  ·obtain⟨h,c,a⟩:=jfz i.Zx hg;exact⟨h,c,_,a,rfl⟩
 refine⟨⟨f.os,f.tape,f.output,f.size,λd hg=>f.block d Zo ?_⟩,λd B j hg m=>f.block d ?_ ?_⟩
 ·rintro(rfl | n)
  ·omega
  ·have:=(g d n).1;omega
 ·exact Classical.byContradiction λn=>by rw[Array.getElem?_eq_none Zo] at hg;cases hg
 ·rintro(rfl | n)
  ·obtain⟨c,a,-⟩:=i.box;rw[hg] at a
   have:j=59:=by injection a with a;injection a
   subst this;exact absurd m Ze
  ·obtain⟨-,c,r,a,l⟩:=g d n;rw[hg] at a
   have:j=r:=by injection a with a;injection a
   subst this;rw[m] at l
   cases l
theorem BkS.keepL {h i:List HL} (c:BkS w b base q h i) (m:h.length<=30000) (o:q<=60000) (a:Option Addr) (n j:Nat) :
  Cl 222 #[.pointer (some ⟨b,0,none⟩),.slice a n j] w (VW b base (q+1) (h++[⟨a,n,j,q⟩]) i w):=by
 obtain⟨v,t,d,u,l⟩:=c.ex;refine(jj7 b base q h.length i.length v t _ _ a n j w m o d c.hw).mono ?_;rintro e w' ⟨r,s,f,-,g⟩;refine⟨r,⟨⟨s,t,?_,λc=>absurd c (by simp),l⟩,c.hb,zm c.hw g.size⟩,UI d c.hb c.hw (Or.inl rfl) g⟩;rw[HL.snoc,List.length_append];exact f
theorem BkS.keepT {i h:List HL} (c:BkS w b base q i h) (m:h.length<=30000) (o:q<=60000) (a:Option Addr) (n j:Nat) :
  Cl 43 #[.pointer (some ⟨b,0,none⟩),.slice a n j] w (VW b base (q+1) i (h++[⟨a,n,j,q⟩]) w):=by
 obtain⟨v,u,d,l,t⟩:=c.ex;refine(jj8 b base q i.length h.length v u _ _ a n j w m o d c.hw).mono ?_;rintro e w' ⟨r,s,f,-,g⟩;refine⟨r,⟨⟨v,s,?_,l,λc=>absurd c (by simp)⟩,c.hb,zm c.hw g.size⟩,UI d c.hb c.hw (Or.inr rfl) g⟩;rw[HL.snoc,List.length_append];exact f
theorem BkS.alloc {g h:List HL} (d:BkS w b base q g h) (o:Obj):BkS (w.alloc o) b base q g h:=by
 obtain⟨v,i,f,a,c⟩:=d.ex;exact⟨⟨v,i,f.alloc o,a,c⟩,d.hb,by rw[World.size_alloc];have:=d.hw;omega⟩
theorem BkS.limbs {d i:List HL} (c:BkS w b base q d i) (g:d.length<=30000) (h:q<=60000) (a:Option Addr) (n f:Nat) :
  Cl 176 #[.pointer (some ⟨b,0,none⟩),.slice a n f] w (VW b base (q+1) (d++[⟨a,n,f,q⟩]) i w):=by
 have l:=qh<|c.keepL g h a n f;clear c;go_enter func176,ntmps176;go_wp2_with fail
 refine l.o.mono ?_;rintro e m ⟨⟨r,rfl⟩,c⟩;have j:=qh c;clear c;go_wp2_with fail
 (try simp only[Exit.inBlock,Exit.then])
 refine bodyPost_end (results_none rfl _ _ _) rfl ?_;exact⟨⟨_,rfl⟩,j.o⟩
theorem BkS.num {g m:List HL} (c:BkS w b base q g m) (h:g.length<=30000) (i:q<=60000) (j:Bool) (a:Option Addr) (n d:Nat) :
  Cl 116 #[.pointer (some ⟨b,0,none⟩),.agg #[.bool j,.slice a n d]] w (VW b base (q+1) (g++[⟨a,n,d,q⟩]) m w):=by
 have o:=qh<|(c.alloc (.cells #[.bool j,.slice a n d] 30)).limbs h i a n d;have f:=qh<|Qz.alloc c.hw (.cells #[.bool j,.slice a n d] 30);clear c;go_enter func116,ntmps116;go_wp2_with fail
 refine o.o.mono ?_;rintro e s ⟨⟨r,rfl⟩,c⟩;have l:=qh c;clear c;go_wp2_with fail
 (try simp only[Exit.inBlock,Exit.then])
 refine bodyPost_end (results_none rfl _ _ _) rfl ?_;exact⟨⟨_,rfl⟩,l.o.1,f.o.trans l.o.2⟩
def fracL (L:List HL) (q:Nat) (a1:Option Addr) (n1 c1:Nat) (a2:Option Addr) (n2 c2:Nat):List HL:=L++[⟨a1,n1,c1,q⟩]++[⟨a2,n2,c2,q+1⟩]
theorem BkS.frac {x C:List HL} (t:BkS w b base q x C) (a:x.length<=29990) (v:q<=59990) (o:Bool) (h:Option Addr) (j c1:Nat) (s:Bool) (i:Option Addr) (l c2:Nat) :
  Cl 44 #[.pointer (some ⟨b,0,none⟩),.agg #[.bool o,.slice h j c1,.bool s,.slice i l c2]] w (VW b base (q+2) (fracL x q h j c1 i l c2) C w):=by
 obtain⟨E,f⟩:=gn (w.alloc (.cells #[.bool o,.slice h j c1,.bool s,.slice i l c2] 32));have u:=qh (show BkS E b base q x C by rw[f];exact t.alloc _);have m:=qh (show Qz base w E by rw[f];exact Qz.alloc t.hw _);have g:=qh<|al f;have y:=qh a;have z:=qh v;have A:=qh f;have B:=qh<|u.o.num Zo Zo o h j c1;clear t a v f;go_enter func44,ntmps44
 go_upto_region 1 with (fail)
 rw[<- A.o];obtain⟨c0,c,d,c3⟩:=g.o.c4;go_wp2_with fail
 refine B.o.mono ?_;rintro e F ⟨⟨r,rfl⟩,n,a⟩;have u:=qh n;have g:=qh<|Bxs.QA g.o a rfl;have m:=qh<|m.o.trans a;have B:=qh<|n.num (by rw[List.length_append];have:=y.o;simp;omega) (Zh z) s i l c2;clear n a c0 c d c3;obtain⟨c0,c,d,c3⟩:=g.o.c4;go_wp2_with fail
 refine B.o.mono ?_;rintro e G ⟨⟨r,rfl⟩,t⟩;have D:=qh t;clear t c0 c d c3;go_wp2_with fail
 (try simp only[Exit.inBlock,Exit.then])
 refine bodyPost_end (results_none rfl _ _ _) rfl ?_;exact⟨⟨_,rfl⟩,D.o.1,m.o.trans D.o.2⟩
end Book
namespace Limb
open Go.RowKit Go.Sort Go.FreshH
theorem XT (a:Rat):okF (decide (a.num<0)) (Ja a.num.natAbs) (dgi a.num.natAbs) (decide ((a.den:Int)<0)) (Ja (a.den:Int).natAbs) (dgi (a.den:Int).natAbs):=by
 refine⟨JY _,JY _,?_,?_⟩
 ·rw[Jl];exact QE a
 ·rw[Jl,Jl];exact rat_gcd a
theorem XC (a:Rat):Xv (decide (a.num<0)) (Ja a.num.natAbs) (dgi a.num.natAbs) (decide ((a.den:Int)<0)) (Ja (a.den:Int).natAbs) (dgi (a.den:Int).natAbs)=a:=by
 obtain⟨c,d⟩:=XY (XT a);rw[Jl] at c d;exact Rat.ext c Zo
theorem mulc_any (bx bz:Nat) (m r:Int) (A:Option Addr) (c1:Nat) (O:Option Addr) (R c2:Nat) (T:Bool) (B:Option Addr) (c3:Nat) (P:Option Addr) (S c4:Nat) (U:Bool) (n o:Bool) (s t:Option Addr) (j h l i:Nat) (u:World)
  (y:Bxs u bx 32 [.bool (decide (m<0)),.slice A (Ja m.natAbs) c1,.bool T,.slice O R c2]) (z:Bxs u bz 32 [.bool (decide (r<0)),.slice B (Ja r.natAbs) c3,.bool U,.slice P S c4])
  (F:Rd u A (Ja m.natAbs) (dgi m.natAbs)) (K:Ja m.natAbs<=100000000) (I:Ja m.natAbs<=c1) (G:Rd u B (Ja r.natAbs) (dgi r.natAbs)) (L:Ja r.natAbs<=100000000) (J:Ja r.natAbs<=c3) :
  Cl 104 #[Jv n s j h,Jv o t l i,.pointer (some ⟨bx,0,none⟩),.pointer (some ⟨bz,0,none⟩)] u (VJ u (m*r)):=by
 have d:=qh<|((y.alloc (.cells #[.bool n,.slice s j h] 30)).alloc (.cells #[.bool o,.slice t l i] 30)).alloc (.cells #[.bool false,.slice none 0 0] 30);have f:=qh<|((z.alloc (.cells #[.bool n,.slice s j h] 30)).alloc (.cells #[.bool o,.slice t l i] 30)).alloc (.cells #[.bool false,.slice none 0 0] 30);have a:=qh<|Bxs.new ((u.alloc (.cells #[.bool n,.slice s j h] 30)).alloc (.cells #[.bool o,.slice t l i] 30)) 30 [.bool false,.slice none 0 0];obtain⟨N,c⟩:=gn (((u.alloc (.cells #[.bool n,.slice s j h] 30)).alloc (.cells #[.bool o,.slice t l i] 30)).alloc (.cells #[.bool false,.slice none 0 0] 30));have g:=qh<|bq c (((zk.alloc zj _).alloc (by go_size) _).alloc (by go_size) _)
 have x:u.heap.size+3=N.heap.size:=by rw[c];simp
 rw[<- c] at d f;have a:=qh (show Bxs N (u.heap.size+1+1) 30 [.bool false,.slice none 0 0] by have aa:=a.o;simp only[World.size_alloc] at aa;rw[c];exact aa);have BR:=qh<|Kb (decide (m<0)) A (Ja m.natAbs) c1 (dgi m.natAbs) (decide (r<0)) B (Ja r.natAbs) c3 (dgi r.natAbs) N (F.below g.o) K I (G.below g.o) L J;rw[Jl,Jl] at BR;obtain⟨ae,H⟩:=gn (m*r);rw[<- H] at BR ⊢;have C:=qh c;have D:=qh x;clear c x F G H y z;go_enter func104,ntmps104
 go_upto_region 1 with (fail)
 rw[<- C.o];clear C;obtain⟨V,W,X,Y,Z,x5⟩:=Jg d.o;obtain⟨y0,y1,y2,y3,y4,y5⟩:=Jg f.o;go_wp2_with fail
 with_reducible refine BR.o.mono ?_
 rintro e w2 ⟨ad,rfl,M,Q,v⟩;have E:=qh<|a.o.bl v;have g:=qk g v;have ac:=D.o;have ab:=v.size;clear V W X Y Z x5 y0 y1 y2 y3 y4 y5 d f a BR v;obtain⟨z0,z1,z2,z3⟩:=E.o.bx.all;go_wp2;refine bodyPost_ret (Je rfl _ _ _ _ _ _ _ rfl ((E.o.put 0 _).put 1 _) underlying30 rfl Zk) rfl ⟨ad,rfl,?_,Q,?_⟩
 ·exact((M.oz).oz).mono Zo
 ·exact(g.o.sc).sc
end Limb
namespace Book
open Go.RowKit Go.Sort Limb
def Xl (L:List HL) (j:Nat):HL:=L.getD j ⟨none,0,0,0⟩
theorem Xl.mem {c:List HL} {d:Nat} (a:d<c.length):Xl c d∈c:=by
 unfold Xl;rw[List.getD_eq_getElem?_getD,List.getElem?_eq_getElem a];exact List.getElem_mem a
theorem flat_get:∀ (d:List HL) (c a:Nat),c<d.length->a<3->(d.flatMap HL.row)[3*c+a]?=((Xl d c).row)[a]?
 | [],_,_,h,_=>absurd h (Nat.not_lt_zero _)
 | h :: r,0,a,_,hd=>by
  rw[List.flatMap_cons,List.getElem?_append_left (by show 3*0+a<3;omega),Nat.mul_zero,Nat.zero_add]
  rfl
 | h :: r,c+1,a,hj,hd=>by
  rw[List.flatMap_cons,List.getElem?_append_right (by show 3<=3*(c+1)+a;omega)]
  have e:3*(c+1)+a-(HL.row h).length=3*c+a:=by show 3*(c+1)+a-3=_;omega
  rw[e,flat_get r c a (by rw[List.length_cons] at hj;omega) hd];rfl
theorem arr_ofL {s:World} {base:Nat} {v:Value} {f:List HL} (h:s.ownsRow base 127 3 v f.length (f.flatMap HL.row)) (x:0<f.length) :
  ∃ i c,v=.slice (some ⟨i,0,none⟩) f.length c/\base<=i/\Yz (λd=>(Xl f d).q) s i f.length (λd=>(Xl f d).a) (λd=>(Xl f d).n) (λd=>(Xl f d).c) (λ_=>.slice none 0 0):=by
 obtain⟨i,c,a,rfl,m,hg,u,t,n,j⟩:∃ i c a,v=.slice (some ⟨i,0,none⟩) f.length c/\base<=i/\s.heap[i]?=some (.cells a 127 (0,0))/\f.length<=c/\c<=maxLen/\a.size=c*3/\a.toList.take (f.length*3)=f.flatMap HL.row:=by
  rcases h.2 with ⟨_,h⟩ | h
  ·omega
  ·exact h
 have cell:∀ d l,d<f.length->l<3->a[3*d+l]?=((Xl f d).row)[l]?:=by
  intro d l g r;have h:=flat_get f d l g r;rw[<- j,List.getElem?_take,if_pos Zo,Array.getElem?_toList] at h;exact h
 refine⟨i,c,rfl,m,c*3,λo=>a[o]?.getD undef,⟨a,hg,n,λo hi=>?_⟩,λd g=>⟨Zo,?_,?_,?_⟩⟩
 ·show a[o]?=some ((a[o]?).getD undef);rw[Array.getElem?_eq_getElem Zo];rfl
 ·have h:=cell d 0 g Zo;rw[Nat.add_zero] at h;show(a[3*d]?).getD undef=_;rw[h];rfl
 ·show(a[3*d+1]?).getD undef=_;rw[cell d 1 g Zo];rfl
 ·show(a[3*d+2]?).getD undef=_;rw[cell d 2 g Zo];rfl
theorem ji2 {s:World} {base:Nat} {v:Value} {f:List HL} (h:s.ownsRow base 120 3 v f.length (f.flatMap HL.row)) (x:0<f.length) :
  ∃ i c,v=.slice (some ⟨i,0,none⟩) f.length c/\base<=i/\Yo (λd=>(Xl f d).q) s i f.length (λd=>(Xl f d).a) (λd=>(Xl f d).n) (λd=>(Xl f d).c) (λ_=>.slice none 0 0):=by
 obtain⟨i,c,a,rfl,m,hg,u,t,n,j⟩:∃ i c a,v=.slice (some ⟨i,0,none⟩) f.length c/\base<=i/\s.heap[i]?=some (.cells a 120 (0,0))/\f.length<=c/\c<=maxLen/\a.size=c*3/\a.toList.take (f.length*3)=f.flatMap HL.row:=by
  rcases h.2 with ⟨_,h⟩ | h
  ·omega
  ·exact h
 have cell:∀ d l,d<f.length->l<3->a[3*d+l]?=((Xl f d).row)[l]?:=by
  intro d l g r;have h:=flat_get f d l g r;rw[<- j,List.getElem?_take,if_pos Zo,Array.getElem?_toList] at h;exact h
 refine⟨i,c,rfl,m,c*3,λo=>a[o]?.getD undef,⟨a,hg,n,λo hi=>?_⟩,λd g=>⟨Zo,?_,?_,?_⟩⟩
 ·show a[o]?=some ((a[o]?).getD undef);rw[Array.getElem?_eq_getElem Zo];rfl
 ·have h:=cell d 0 g Zo;rw[Nat.add_zero] at h;show(a[3*d]?).getD undef=_;rw[h];rfl
 ·show(a[3*d+1]?).getD undef=_;rw[cell d 1 g Zo];rfl
 ·show(a[3*d+2]?).getD undef=_;rw[cell d 2 g Zo];rfl
def Yt (L:List HL):Prop:=L.Pairwise λx y=>∀ p q:Addr,x.a=some p->y.a=some q->p.block≠q.block
theorem Yt.part {i:List HL} (j:Yt i):Part i.length λf=>(Xl i f).a:=by
 have key:∀ g f,g<f->g<i.length->f<i.length->∀ p q,(Xl i g).a=some p->(Xl i f).a=some q->p.block≠q.block:=by
  intro g f h hi d p q a c;have j:=List.pairwise_iff_getElem.1 j g f hi d h;unfold Xl at a c;rw[List.getD_eq_getElem?_getD,List.getElem?_eq_getElem hi] at a;rw[List.getD_eq_getElem?_getD,List.getElem?_eq_getElem d] at c;exact j p q a c
 intro g hi f d h p q a c
 rcases Nat.lt_or_ge g f with j | j
 ·exact key g f j hi d p q a c
 ·exact λe=>key f g Zo d hi q p c a e.symm
theorem BkS.apart {B:World} {b base i h:Nat} {j l:List HL} (f:BkS B b base i j l) (Q:0<j.length) (F:0<l.length) (N:j.length<=30000) (A:l.length<=30000) (U:∀ c∈j,c.q<=30000) (O:∀ c∈l,c.q<=30000)
  (W:HL->Nat->Int) (C:HL->Nat->Value) (K:∀ c∈j,Limb.Own 128 B h c.a c.n c.c (W c)) (y:∀ c∈l,Qe B h c.a c.n c.c (C c)) (J:∀ c∈j,c.n<=900000000) (x:∀ c∈l,c.n<=100000000)
  (z:∀ c:HL,c∈j++l->∀ p:Addr,c.a=some p->h<=p.block/\p.block<base) (Z:h<=base) (H:Yt j) (u:Yt l) (I:∀ c∈j,∀ ab∈l,∀ p i:Addr,c.a=some p->ab.a=some i->p.block≠i.block) :
  Cl 20 #[.pointer (some ⟨b,0,none⟩)] B λe w'=>e=.returned (.bool true)/\Below h B w':=by
 obtain⟨v,ac,g,-,-⟩:=f.ex;obtain⟨P,t,rfl,hg,G⟩:=arr_ofL g.Kw Q;obtain⟨E,D,rfl,X,L⟩:=ji2 g.Zx F;have hb:=f.hb;have hw:=f.hw
 have m:∀ i,UA j.length (λd=>(Xl j d).a) i->h<=i/\i<base:=by
  rintro i ⟨d,a,p,o,rfl⟩;exact z _ (List.mem_append_left _ (Xl.mem a)) p o
 have n:∀ i,UA l.length (λd=>(Xl l d).a) i->h<=i/\i<base:=by
  rintro i ⟨d,a,p,o,rfl⟩;exact z _ (List.mem_append_right _ (Xl.mem a)) p o
 refine(jg8 b P j.length t E l.length D _ _ _ (λd=>W (Xl j d)) _ _ _ _ (λd=>C (Xl l d)) _ (jdn i (.slice (some ⟨P,0,none⟩) j.length t) (.slice (some ⟨E,0,none⟩) l.length D)) B
  { hk:=N,hkt:=A,hν:=λd a=>U _ (Xl.mem a),hμ:=λd a=>O _ (Xl.mem a),hB:=g.box,f2:=rfl,f6:=rfl,hz:=λaa F h2 R T=>?_,hA:=G,hT:=L,hO:=λd a=>(K _ (Xl.mem a)).mono (Nat.zero_le _),hOt:=λd a=>(y _ (Xl.mem a)).mono (Nat.zero_le _),hN:=λd a=>J _ (Xl.mem a),hNt:=λd a=>x _ (Xl.mem a),S:=⟨⟨λf=>by have:=(m _ f).2;omega,λf=>by have:=(m _ f).2;omega⟩,λf=>by have:=(m _ f).2;omega⟩,St:=⟨⟨λf=>by have:=(n _ f).2;omega,λf=>by have:=(n _ f).2;omega⟩,λf=>by have:=(n _ f).2;omega⟩,hD:=H.part,hDt:=u.part,DD:=?_,ne:=⟨λe=>g.neL (by rw[e];rfl),λe=>g.neT (by rw[e];rfl),λe=>g.vu P rfl (by rw[e];rfl)⟩ }).mono ?_
 ·unfold jdn;rw[if_neg Zo,if_neg R,if_neg T]
 ·rintro g2 ⟨aa,hi,p,o,rfl⟩ ⟨d,a,r,V,e⟩;exact I _ (Xl.mem hi) _ (Xl.mem a) p r o V e.symm
 ·rintro e w' ⟨rfl,M⟩;refine⟨rfl,M.jfu Zo λk Y s=>?_⟩
  rcases s with (s | rfl) | (s | rfl)
  ·have:=(m _ s).1;omega
  ·omega
  ·have:=(n _ s).1;omega
  ·omega
end Book
namespace Limb
open Go.RowKit Go.Sort Go.FreshH
theorem fmul_any (t:Bool) (K:Option Addr) (m c1:Nat) (o1:Nat->Int) (u:Bool) (L:Option Addr) (s c2:Nat) (o2:Nat->Int) (B:Bool) (G:Option Addr) (i c3:Nat) (o3:Nat->Int) (C:Bool) (H:Option Addr) (j c4:Nat) (o4:Nat->Int) (d:World) (R Z:Rat)
  (hx:R=Xv t m o1 u s o2) (hy:Z=Xv B i o3 C j o4)
  (h1:Rd d K m o1) (ar:m<=900000) (ai:m<=c1) (h2:Rd d L s o2) (au:s<=900000) (aj:s<=c2) (h3:Rd d G i o3) (av:i<=900000) (ak:i<=c3) (h4:Rd d H j o4) (aw:j<=900000) (am:j<=c4) :
  Cl 34 #[J4 t K m c1 u L s c2,J4 B G i c3 C H j c4] d (Ki d (R*Z).num ((R*Z).den:Int)):=by
 have h:∀ {a:Option Addr} {n:Nat} {o:Nat->Int},Rd d a n o->0<n->∀ p,a=some p->p.block<d.heap.size:=λN h0 p Q=>by
  obtain⟨b,off,e,hc⟩:=N.cells h0
  rw[e] at Q;cases Q
  exact block_lt_of_cell (hc 0 h0)
 have OX:=qh (λ(w':World) (c:Bl d w')=>Kv t K m c1 o1 u L s c2 o2 w' d.heap.size c.size (h1.below c) Zo ai (h h1) (h2.below c) Zo aj (h h2));have OY:=qh (λ(w':World) (c:Bl d w')=>Kv B G i c3 o3 C H j c4 o4 w' d.heap.size c.size (h3.below c) Zo ak (h h3) (h4.below c) Zo am (h h4));have l1:=JV (s1:=t) (s2:=u) h1.rng h2.rng;have l2:=JV (s1:=B) (s2:=C) h3.rng h4.rng;rw[<- hx] at OX l1;rw[<- hy] at OY l2;obtain⟨p,Q⟩:=gn R.num;obtain⟨q,hq⟩:=gn (R.den:Int);obtain⟨r,hr⟩:=gn Z.num;obtain⟨ae,ht⟩:=gn (Z.den:Int);rw[<- Q,<- hq] at OX l1;rw[<- hr,<- ht] at OY l2;have J:=qh<|And.intro Q (And.intro hq (And.intro hr ht));obtain⟨z,hz⟩:=gn (R*Z);rw[<- hz];have HZ:=qh hz;clear hz;have HL:=qh (show(Ja p.natAbs<=900001/\Ja q.natAbs<=900001)/\Ja r.natAbs<=900001/\Ja ae.natAbs<=900001 by omega);clear Q hq hr ht hx hy h1 h2 h3 h4 l1 l2 h;have v:=qh<|((Bxs.new d 32 [.bool t,.slice K m c1,.bool u,.slice L s c2]).alloc (.cells #[.bool B,.slice G i c3,.bool C,.slice H j c4] 32)).alloc (.cells zFv.toArray 32);have x:=qh<|((Bxs.new (d.alloc (.cells #[.bool t,.slice K m c1,.bool u,.slice L s c2] 32)) 32 [.bool B,.slice G i c3,.bool C,.slice H j c4]).alloc (.cells zFv.toArray 32));have F:=qh<|(Bxs.new ((d.alloc (.cells #[.bool t,.slice K m c1,.bool u,.slice L s c2] 32)).alloc (.cells #[.bool B,.slice G i c3,.bool C,.slice H j c4] 32)) 32 zFv);obtain⟨ag,M⟩:=gn (((d.alloc (.cells #[.bool t,.slice K m c1,.bool u,.slice L s c2] 32)).alloc (.cells #[.bool B,.slice G i c3,.bool C,.slice H j c4] 32)).alloc (.cells zFv.toArray 32))
 have l:=qh<|bq M (((zk.alloc zj _).alloc (by go_size) _).alloc (by go_size) _)
 have ac:d.heap.size+3=ag.heap.size:=by rw[M];simp
 have v:=qh<|bz M v.o;have x:=qh (show Bxs ag (d.heap.size+1) 32 [.bool B,.slice G i c3,.bool C,.slice H j c4] by have N:=x.o;simp only[World.size_alloc] at N;rw[M];exact N);have F:=qh (show Bxs ag (d.heap.size+1+1) 32 zFv by have N:=F.o;simp only[World.size_alloc] at N;rw[M];exact N);have HW:=qh M;have aa:=qh ac;clear M ac;go_enter func34,ntmps34
 go_upto_region 1 with (fail)
 rw[<- HW.o];clear HW;have HS:=qh (λ(w':World) (c:Bl ag w')=>And.intro (Jg (v.o.bl c)) (Jg (x.o.bl c)))
 refine Ji 3 (JI [(1,Sp.made (jhe p q) (λR w'=>Q7 w' d.heap.size (d.heap.size+3) p q R))]) (λw'=>Bl ag w') Zk Zk
  (Jb (Sp.Jf λR d w' N c=>N.below c) Jh) (λ_ _ N c=>N.trans (c.mono N.size)) (zk.drew) ?_
 simp only[zx,zy,zv,zw];refine rdw (λw' y=>by obtain⟨T,U,V,W,X,Y⟩:=(HS.o _ y).1;go_simp;try rfl) ?_;refine Jc rfl rfl (λw' an=>?_) ?_
 ·have y:=an.world;go_simp;refine(OX.o w' (l.o.trans (y.mono l.o.size))).mono ?_;intro e ay hh;obtain⟨z,rfl,hi,c⟩:=Q3 hh;exact⟨_,rfl,⟨⟨z.1,z.2.1,z.2.2.1,z.2.2.2,rfl⟩,⟨z.1,z.2.1,z.2.2.1,z.2.2.2,rfl,hi.up (by have:=y.size;have:=aa.o;omega)⟩⟩,c⟩
 rintro _ ⟨D,rfl⟩
 conv=>arg 10;simp only[Act.put,zq0,zq1,zq2]
 refine rdw (λw' y=>by obtain⟨T,U,V,W,X,Y⟩:=(HS.o _ y).2;go_simp;try rfl) ?_;refine Jn (λw1 ad hF=>?_);have f:=qh<|jfy (hF 1);have A:=qh ad;clear hF ad;go_wp2_with fail
 have ab:=qh<|OY.o w1 (l.o.trans (A.o.mono l.o.size));clear OX OY HS;with_reducible refine ab.o.mono ?_
 intro e w2 hh;obtain⟨E,rfl,hi,c⟩:=Q3 hh;have g:=qh<|hi.up (show d.heap.size+3<=w1.heap.size by have:=A.o.size;have:=aa.o;omega);have f:=qh<|f.o.below c;have A:=qk A c;clear hh hi c ab;have O:=qh<|v.o.below A.o v.o.lt;have P:=qh<|x.o.below A.o x.o.lt;have S:=qh<|F.o.below A.o F.o.lt;obtain⟨T,U,V,W,X,Y⟩:=Jg O.o;obtain⟨y0,y1,y2,y3,y4,y5⟩:=Jg P.o
 go_upto_region 2 with (fail)
 obtain⟨ao,I⟩:=gn ((((((((w2.setCell ⟨d.heap.size,0,none⟩ (.bool (decide (p<0)))).setCell ⟨d.heap.size,1,none⟩ (.slice D.1 (Ja p.natAbs) D.2.1)).setCell ⟨d.heap.size,2,none⟩ (.bool (decide (q<0)))).setCell ⟨d.heap.size,3,none⟩ (.slice D.2.2.1 (Ja q.natAbs) D.2.2.2)).setCell ⟨d.heap.size+1,0,none⟩ (.bool (decide (r<0)))).setCell ⟨d.heap.size+1,1,none⟩ (.slice E.1 (Ja r.natAbs) E.2.1)).setCell ⟨d.heap.size+1,2,none⟩ (.bool (decide (ae<0)))).setCell ⟨d.heap.size+1,3,none⟩ (.slice E.2.2.1 (Ja ae.natAbs) E.2.2.2));have O:=qh<|bw I ((((((((O.o.put 0 _).put 1 _).put 2 _).put 3 _).oz).oz).oz).oz);have P:=qh<|bw I ((((((((P.o.oz).oz).oz).oz).put 0 _).put 1 _).put 2 _).put 3 _);have S:=qh<|bz I ((((((((S.o.oz).oz).oz).oz).oz).oz).oz).oz);have f:=qh (show Q7 ao d.heap.size (d.heap.size+3) p q D by rw[I];exact((((((((f.o.sz).sz).sz).sz).sz).sz).sz).sz));have g:=qh (show Q7 ao d.heap.size (d.heap.size+3) r ae E by rw[I];exact((((((((g.o.sz).sz).sz).sz).sz).sz).sz).sz));have hG:=l.o.trans (A.o.mono l.o.size);have l:=qh<|bq I ((((((((hG.sc).sc).sc).sc).sc).sc).sc).sc);rw[<- I];clear I hG T U V W X Y y0 y1 y2 y3 y4 y5 v x F A
 have MK:=qh (jch 104 #[.pointer (some ⟨d.heap.size,0,none⟩),.pointer (some ⟨d.heap.size+1,0,none⟩)] (p*r) (decide (p<0)) D.1 (Ja p.natAbs) D.2.1 (dgi p.natAbs) (decide (q<0)) D.2.2.1 (Ja q.natAbs) D.2.2.2 (dgi q.natAbs) (decide (r<0)) E.1 (Ja r.natAbs) E.2.1 (dgi r.natAbs) (decide (ae<0)) E.2.2.1 (Ja ae.natAbs) E.2.2.2 (dgi ae.natAbs) ao R Z
  (by rw[J.o.1,J.o.2.1];exact(XC R).symm) (by rw[J.o.2.2.1,J.o.2.2.2];exact(XC Z).symm)
  f.o.r1.rd (Zh HL) f.o.c1 f.o.r2.rd (Zh HL) f.o.c2 g.o.r1.rd (Zh HL) g.o.c1 g.o.r2.rd (Zh HL) g.o.c2
  (λ_ _=>rfl) (by have N:=Jo p.natAbs r.natAbs;rw[<- Int.natAbs_mul] at N;have:=HL.o;omega)
  (λm1 m2 w1 c _ _=>mulc_any d.heap.size (d.heap.size+1) p r _ _ _ _ _ _ _ _ _ _ _ _ _ _ _ _ _ _ _ _ w1 (O.o.bl c) (P.o.bl c) (f.o.r1.rd.below c) (Zh HL) f.o.c1 (g.o.r1.rd.below c) (Zh HL) g.o.c1))
 rw[show Rat.divInt (p*r) ((R.den:Int)*(Z.den:Int))=R*Z by rw[J.o.1,J.o.2.2.1,Rat.mul_def',<- Rat.divInt_ofNat,Int.natCast_mul]] at MK;rw[<- HZ.o] at MK;have af:=qh (show d.heap.size+3<=ao.heap.size by have:=S.o.lt;omega);clear HZ J HL f g;obtain⟨T,U,V,W,X,Y⟩:=Jg O.o;obtain⟨y0,y1,y2,y3,y4,y5⟩:=Jg P.o;go_wp2_with fail
 with_reducible refine MK.o.mono ?_
 rintro e w4 ⟨r1,r2,rfl,Q1,Q2,ah,c⟩;have M3:=qh<|S.o.bl c;have l:=qk l c;have ax:=af.o;have aq:=c.size;clear T U V W X Y y0 y1 y2 y3 y4 y5 O P S MK c;obtain⟨z0,z1,z2,z3,zf,zl⟩:=Jg M3.o;go_wp2;refine bodyPost_ret (Je rfl _ _ _ _ _ _ _ rfl ((((M3.o.put 0 _).put 1 _).put 2 _).put 3 _) underlying32 rfl Zk) rfl ⟨r1,r2,rfl,?_,?_,ah,?_⟩
 ·exact((((Q1.oz).oz).oz).oz).mono Zo
 ·exact((((Q2.oz).oz).oz).oz).mono Zo
 ·exact(((l.o.sc).sc).sc).sc
end Limb
namespace Book
open Go.RowKit Go.Sort Go.FreshH Limb
theorem jkd (b:Nat) (a:World) (d:a.cell? ⟨b,2,none⟩=some (.slice none 0 0)):Cl 46 #[.pointer (some ⟨b,0,none⟩)] a λe w'=>(∃ v,e=.returned v)/\w'=a:=by
 go_enter func46,ntmps46;go_wp2;go_loopw [2] (λc wr=>c=.int .i64 0/\wr=a) (λ_ _=>0)
 case atStart=>exact⟨rfl,rfl⟩
 case round =>
  obtain⟨rfl,rfl⟩:=hrel;go_wp2
  (try simp only[Exit.inBlock,Exit.then])
  refine bodyPost_end (results_none rfl _ _ _) rfl ?_;exact⟨⟨_,rfl⟩,rfl⟩
theorem jke (b:Nat) (a:World) (d:a.cell? ⟨b,2,none⟩=some (.slice none 0 0)):Cl 58 #[.pointer (some ⟨b,0,none⟩)] a λe w'=>(∃ v,e=.returned v)/\w'=a:=by
 go_enter func58,ntmps58;go_wp2;go_loopw [2] (λc wr=>c=.int .i64 0/\wr=a) (λ_ _=>0)
 case atStart=>exact⟨rfl,rfl⟩
 case round =>
  obtain⟨rfl,rfl⟩:=hrel;go_wp2
  (try simp only[Exit.inBlock,Exit.then])
  refine bodyPost_end (results_none rfl _ _ _) rfl ?_;exact⟨⟨_,rfl⟩,rfl⟩
theorem jkf (b:Nat) (a:World) (d:a.cell? ⟨b,2,none⟩=some (.slice none 0 0)):Cl 70 #[.pointer (some ⟨b,0,none⟩)] a λe w'=>e=.returned (.bool true)/\w'=a:=by
 go_enter func70,ntmps70;go_wp2;go_loopw [3] (λc wr=>c=.int .i64 0/\wr=a) (λ_ _=>0)
 case atStart=>exact⟨rfl,rfl⟩
 case round =>
  obtain⟨rfl,rfl⟩:=hrel;go_wp2;go_ret;exact⟨rfl,rfl⟩
structure BkB0 (w:World) (b vt kt ct:Nat) (At:Nat->Option Addr) (Nt Ct:Nat->Nat) (Ot:Nat->Nat->Value) (μ:Nat->Nat) (f:Nat->Value):Prop where
 hkt:kt<=30000
 hμ:∀ j,j<kt->μ j<=30000
 hB:w.rowIs b 59 13 f
 f6:f 6=.slice (some ⟨vt,0,none⟩) kt ct
 hz:∀ i,0<i->i<13->i≠6->f i=.slice none 0 0
 hT:Yo μ w vt kt At Nt Ct (λ_=>.slice none 0 0)
 hOt:∀ j,j<kt->Qe w 0 (At j) (Nt j) (Ct j) (Ot j)
 hNt:∀ j,j<kt->Nt j<=100000000
 St:¬UA kt At b/\¬UA kt At vt
 hDt:Part kt At
 ne:b≠vt
theorem jhg (b t s J:Nat) (n:Nat->Option Addr) (I D:Nat->Nat) (Y:Nat->Nat->Value) (N:Nat->Nat) (f:Nat->Value) (z:World) (C:BkB0 z b t s J n I D Y N f) :
  Cl 20 #[.pointer (some ⟨b,0,none⟩)] z λe w'=>e=.returned (.bool true)/\Touch (λK=>UA s n K\/K=t) z w':=by
 have c:=qh C;have H:=qh C.hz;have E:=qh C.hB;have aa:=qh (show ∀ K,UA s n K->K<z.heap.size from λK ⟨Z,B,p,hp,e⟩=>by rw[<- e];exact((C.hOt Z B).blk hp).2.2);have U:=qh<|show t<z.heap.size from C.hT.lt;clear C;have x:=qh (λm (o:0<m) (l:m<13) (r:m≠6)=>(show z.cell? ⟨b,m,none⟩=some (.slice none 0 0) by rw[E.o.cell l,H.o m o l r]));have R:=qh<|jb5 b t s J n I D Y f N z c.o.hkt c.o.hμ E.o c.o.f6 c.o.hT c.o.hOt c.o.hNt c.o.St c.o.hDt;go_enter func20,ntmps20;go_wp2_with fail
 refine(je8 b z (x.o 1 Zo Zo Zo)).mono ?_;rintro e d ⟨⟨v,rfl⟩,a⟩;obtain rfl:=a.symm;go_wp2_with fail
 refine(jkd b z (x.o 2 Zo Zo Zo)).mono ?_;rintro e d ⟨⟨v,rfl⟩,a⟩;obtain rfl:=a.symm;go_wp2_with fail
 refine(jfb b z (x.o 3 Zo Zo Zo)).mono ?_;rintro e d ⟨⟨v,rfl⟩,a⟩;obtain rfl:=a.symm;go_wp2_with fail
 refine(jbi b z (x.o 4 Zo Zo Zo)).mono ?_;rintro e d ⟨⟨v,rfl⟩,a⟩;obtain rfl:=a.symm;go_wp2_with fail
 refine(jih b z (x.o 5 Zo Zo Zo)).mono ?_;rintro e d ⟨⟨v,rfl⟩,a⟩;obtain rfl:=a.symm;go_wp2_with fail
 refine R.o.mono ?_;rintro e g ⟨⟨v,rfl⟩,M,O⟩;have T2:=qh (M.mono λK hg=>(Or.inl hg:UA s n K\/K=t));have P:=qh O;have F:=qh<|E.o.of_block (M.block _ E.o.lt c.o.St.1);have T:=qh<|c.o.hT.keep (M.block _ U.o c.o.St.2);clear M O x R;have i:=qh (λm (o:0<m) (l:m<13) (r:m≠6)=>(show g.cell? ⟨b,m,none⟩=some (.slice none 0 0) by rw[F.o.cell l,H.o m o l r]));have S:=qh<|jb8 b t s J n I D f N g c.o.hkt c.o.hμ F.o c.o.f6 T.o P.o c.o.hNt c.o.St c.o.hDt c.o.ne;go_wp2_with fail
 refine(Ul b g (i.o 7 Zo Zo Zo)).mono ?_;rintro e d ⟨⟨v,rfl⟩,a⟩;obtain rfl:=a.symm;go_wp2_with fail
 refine(jfe b g (i.o 8 Zo Zo Zo)).mono ?_;rintro e d ⟨⟨v,rfl⟩,a⟩;obtain rfl:=a.symm;go_wp2_with fail
 refine(jfh b g (i.o 9 Zo Zo Zo)).mono ?_;rintro e d ⟨⟨v,rfl⟩,a⟩;obtain rfl:=a.symm;go_wp2_with fail
 refine(jbl b g (i.o 10 Zo Zo Zo)).mono ?_;rintro e d ⟨⟨v,rfl⟩,a⟩;obtain rfl:=a.symm;go_wp2_with fail
 refine(jbo b g (i.o 11 Zo Zo Zo)).mono ?_;rintro e d ⟨⟨v,rfl⟩,a⟩;obtain rfl:=a.symm;go_wp2_with fail
 refine(jbr b g (i.o 12 Zo Zo Zo)).mono ?_;rintro e d ⟨⟨v,rfl⟩,a⟩;obtain rfl:=a.symm;go_wp2_with fail
 refine(je9 b g (i.o 1 Zo Zo Zo)).mono ?_;rintro e d ⟨⟨v,rfl⟩,a⟩;obtain rfl:=a.symm;go_wp2_with fail
 refine(jke b g (i.o 2 Zo Zo Zo)).mono ?_;rintro e d ⟨⟨v,rfl⟩,a⟩;obtain rfl:=a.symm;go_wp2_with fail
 refine(jfc b g (i.o 3 Zo Zo Zo)).mono ?_;rintro e d ⟨⟨v,rfl⟩,a⟩;obtain rfl:=a.symm;go_wp2_with fail
 refine(jbj b g (i.o 4 Zo Zo Zo)).mono ?_;rintro e d ⟨⟨v,rfl⟩,a⟩;obtain rfl:=a.symm;go_wp2_with fail
 refine(jii b g (i.o 5 Zo Zo Zo)).mono ?_;rintro e d ⟨⟨v,rfl⟩,a⟩;obtain rfl:=a.symm;go_wp2_with fail
 refine S.o.mono ?_;rintro e h ⟨⟨v,rfl⟩,V,W,L⟩;have A:=qh L;have T4:=qh<|T2.o.trans L.tch;have G:=qh<|F.o.of_block (L.tch.block _ F.o.lt (λC=>C.elim c.o.St.1 (λC=>c.o.ne C)));clear L i S;have j:=qh (λm (o:0<m) (l:m<13) (r:m≠6)=>(show h.cell? ⟨b,m,none⟩=some (.slice none 0 0) by rw[G.o.cell l,H.o m o l r]));have X:=qh<|jca b t s J n V I D W f N h c.o.hkt c.o.hμ G.o c.o.f6 (A.o.arr.congr λZ B=>by rw[if_pos B]) A.o.own (λZ B=>(A.o.lng Z B).1) c.o.hNt;go_wp2_with fail
 refine(Um b h (j.o 7 Zo Zo Zo)).mono ?_;rintro e d ⟨⟨v,rfl⟩,a⟩;obtain rfl:=a.symm;go_wp2_with fail
 refine(jff b h (j.o 8 Zo Zo Zo)).mono ?_;rintro e d ⟨⟨v,rfl⟩,a⟩;obtain rfl:=a.symm;go_wp2_with fail
 refine(jfi b h (j.o 9 Zo Zo Zo)).mono ?_;rintro e d ⟨⟨v,rfl⟩,a⟩;obtain rfl:=a.symm;go_wp2_with fail
 refine(jbm b h (j.o 10 Zo Zo Zo)).mono ?_;rintro e d ⟨⟨v,rfl⟩,a⟩;obtain rfl:=a.symm;go_wp2_with fail
 refine(jbp b h (j.o 11 Zo Zo Zo)).mono ?_;rintro e d ⟨⟨v,rfl⟩,a⟩;obtain rfl:=a.symm;go_wp2_with fail
 refine(jbs b h (j.o 12 Zo Zo Zo)).mono ?_;rintro e d ⟨⟨v,rfl⟩,a⟩;obtain rfl:=a.symm;go_wp2_with fail
 refine(jfa b h (j.o 1 Zo Zo Zo)).mono ?_;rintro e d ⟨rfl,a⟩;obtain rfl:=a.symm;go_wp2_with fail
 refine(jkf b h (j.o 2 Zo Zo Zo)).mono ?_;rintro e d ⟨rfl,a⟩;obtain rfl:=a.symm;go_wp2_with fail
 refine(jfd b h (j.o 3 Zo Zo Zo)).mono ?_;rintro e d ⟨rfl,a⟩;obtain rfl:=a.symm;go_wp2_with fail
 refine(jbk b h (j.o 4 Zo Zo Zo)).mono ?_;rintro e d ⟨rfl,a⟩;obtain rfl:=a.symm;go_wp2_with fail
 refine(jij b h (j.o 5 Zo Zo Zo)).mono ?_;rintro e d ⟨rfl,a⟩;obtain rfl:=a.symm;go_wp2_with fail
 refine X.o.mono ?_;rintro e u ⟨rfl,Q⟩;have T6:=qh<|T4.o.trans (Touch.of_below Q);have H6:=qh<|G.o.of_block (Q.block _ G.o.lt);clear Q j X;have y:=qh (λm (o:0<m) (l:m<13) (r:m≠6)=>(show u.cell? ⟨b,m,none⟩=some (.slice none 0 0) by rw[H6.o.cell l,H.o m o l r]));go_wp2_with fail
 refine(Un b u (y.o 7 Zo Zo Zo)).mono ?_;rintro e d ⟨rfl,a⟩;obtain rfl:=a.symm;go_wp2_with fail
 refine(jfg b u (y.o 8 Zo Zo Zo)).mono ?_;rintro e d ⟨rfl,a⟩;obtain rfl:=a.symm;go_wp2_with fail
 refine(jfj b u (y.o 9 Zo Zo Zo)).mono ?_;rintro e d ⟨rfl,a⟩;obtain rfl:=a.symm;go_wp2_with fail
 refine(jbn b u (y.o 10 Zo Zo Zo)).mono ?_;rintro e d ⟨rfl,a⟩;obtain rfl:=a.symm;go_wp2_with fail
 refine(jbq b u (y.o 11 Zo Zo Zo)).mono ?_;rintro e d ⟨rfl,a⟩;obtain rfl:=a.symm;go_wp2_with fail
 refine(jbt b u (y.o 12 Zo Zo Zo)).mono ?_;rintro e d ⟨rfl,a⟩;obtain rfl:=a.symm;go_wp2;go_ret;exact⟨rfl,T6.o⟩
theorem BkS.apart0 {D:World} {b base s f:Nat} {c:List HL} (n:BkS D b base s [] c) (y:0<c.length) (m:c.length<=30000) (C:∀ g∈c,g.q<=30000)
  (t:HL->Nat->Value) (l:∀ g∈c,Qe D f g.a g.n g.c (t g)) (j:∀ g∈c,g.n<=100000000)
  (B:∀ g:HL,g∈c->∀ p:Addr,g.a=some p->f<=p.block/\p.block<base) (K:f<=base) (i:Yt c) :
  Cl 20 #[.pointer (some ⟨b,0,none⟩)] D λe w'=>e=.returned (.bool true)/\Below f D w':=by
 obtain⟨v,P,h,E,-⟩:=n.ex;obtain⟨x,u,rfl,I,z⟩:=ji2 h.Zx y;have H:v=.slice none 0 0:=E rfl;have M:=n.hb;have N:=n.hw
 have d:∀ s,UA c.length (λr=>(Xl c r).a) s->f<=s/\s<base:=by
  rintro s ⟨r,a,p,G,rfl⟩;exact B _ (Xl.mem a) p G
 refine(jhg b x c.length u _ _ _ (λr=>t (Xl c r)) _ (jdn s v (.slice (some ⟨x,0,none⟩) c.length u)) D
  { hkt:=m,hμ:=λr a=>C _ (Xl.mem a),hB:=h.box,f6:=rfl,hz:=λO y L F=>?_,hT:=z,hOt:=λr a=>(l _ (Xl.mem a)).mono (Nat.zero_le _),hNt:=λr a=>j _ (Xl.mem a),St:=⟨λn=>by have:=(d _ n).2;omega,λn=>by have:=(d _ n).2;omega⟩,hDt:=i.part,ne:=λe=>h.neT (by rw[e];rfl) }).mono ?_
 ·unfold jdn;rw[if_neg Zo,if_neg F];split
  ·exact H
  ·rfl
 ·rintro e w' ⟨rfl,A⟩;refine⟨rfl,A.jfu Zo λk J o=>?_⟩
  rcases o with o | rfl
  ·have:=(d _ o).1;omega
  ·omega
end Book
namespace Limb
open Go.RowKit Go.Sort Go.FreshH
theorem jhh (c a:Int) (f g:Option Addr) (c1 c2:Nat) (m:World) (n:Rd m f (Ja c.natAbs) (dgi c.natAbs)) (j:Ja c.natAbs<=4000000) (h:Ja c.natAbs<=c1) (o:Rd m g (Ja a.natAbs) (dgi a.natAbs)) (l:Ja a.natAbs<=4000000) (i:Ja a.natAbs<=c2) :
  Cl 183 #[Jv (decide (c<0)) f (Ja c.natAbs) c1,Jv (decide (a<0)) g (Ja a.natAbs) c2] m (jbf m (if a=0 then 6 else 0) (Rat.divInt c a).num (if a=0 then 0 else ((Rat.divInt c a).den:Int))):=by
 by_cases d:a=0
 ·rw[if_pos d,if_pos d]
  refine(make_3 (decide (c<0)) f (Ja c.natAbs) c1 (dgi c.natAbs) (decide (a<0)) g (Ja a.natAbs) c2 (dgi a.natAbs) m n j h o l i (JY c) (JY a) (by rw[Jl];exact d)).mono λe w' r=>?_
  rw[d,Rat.divInt_zero];exact(jkb r).1
 ·rw[if_neg d,if_neg d];have r:=make_ok (decide (c<0)) f (Ja c.natAbs) c1 (dgi c.natAbs) (decide (a<0)) g (Ja a.natAbs) c2 (dgi a.natAbs) m n j h o l i (JY c) (JY a) (by rw[Jl];exact d);rw[Jl,Jl] at r;exact r
theorem UJ (a c:Rat):Rat.divInt (a.num*(c.den:Int)) (c.num*(a.den:Int))=a/c:=by
 rw[Rat.div_def,Rat.inv_def]
 conv=>rhs;rw[<- Rat.num_divInt_den a]
 rw[Rat.divInt_mul_divInt];rw[Int.mul_comm (a.den:Int)]
open Classical in
theorem fdiv_ok (i:Bool) (A:Option Addr) (g c1:Nat) (M:Nat->Int) (j:Bool) (B:Option Addr) (h c2:Nat) (N:Nat->Int) (l:Bool) (v:Option Addr) (d c3:Nat) (O:Nat->Int) (m:Bool) (x:Option Addr) (f c4:Nat) (P:Nat->Int) (H:World)
  (Z:Rd H A g M) (ax:g<=900000) (ah:g<=c1) (h2:Rd H B h N) (ay:h<=900000) (ai:h<=c2) (h3:Rd H v d O) (az:d<=900000) (aj:d<=c3) (h4:Rd H x f P) (aA:f<=900000) (ak:f<=c4) (an:okF i g M j h N) (hk:okF l d O m f P) (y n:Rat) (hx:y=Xv i g M j h N) (hy:n=Xv l d O m f P) :
  Cl 145 #[J4 i A g c1 j B h c2,J4 l v d c3 m x f c4] H (jbf H (if n=0 then 6 else 0) (y/n).num (if n=0 then 0 else ((y/n).den:Int))):=by
 have l1:=JV (s1:=i) (s2:=j) Z.rng h2.rng;have l2:=JV (s1:=l) (s2:=m) h3.rng h4.rng;rw[<- hx] at l1;rw[<- hy] at l2;have ao:=Jo y.num.natAbs (n.den:Int).natAbs;have aq:=Jo n.num.natAbs (y.den:Int).natAbs;rw[<- Int.natAbs_mul] at ao aq;have HL:=qh (show Ja (y.num*(n.den:Int)).natAbs<=4000000/\Ja (n.num*(y.den:Int)).natAbs<=4000000 by omega)
 have hz:(n.num*(y.den:Int)=0)↔n=0:=by
  have:=QE y;rw[Int.mul_eq_zero,Rat.num_eq_zero];exact⟨λab=>ab.elim id (λab=>Zo),Or.inl⟩
 clear ao aq l1 l2;have o:=qh<|((Bxs.new H 32 [.bool i,.slice A g c1,.bool j,.slice B h c2]).alloc (.cells #[.bool l,.slice v d c3,.bool m,.slice x f c4] 32)).alloc (.cells zFv.toArray 32);have r:=qh<|(Bxs.new (H.alloc (.cells #[.bool i,.slice A g c1,.bool j,.slice B h c2] 32)) 32 [.bool l,.slice v d c3,.bool m,.slice x f c4]).alloc (.cells zFv.toArray 32);have z:=qh<|Bxs.new ((H.alloc (.cells #[.bool i,.slice A g c1,.bool j,.slice B h c2] 32)).alloc (.cells #[.bool l,.slice v d c3,.bool m,.slice x f c4] 32)) 32 zFv;obtain⟨ar,D⟩:=gn (((H.alloc (.cells #[.bool i,.slice A g c1,.bool j,.slice B h c2] 32)).alloc (.cells #[.bool l,.slice v d c3,.bool m,.slice x f c4] 32)).alloc (.cells zFv.toArray 32));have a:=qh<|bq D (((zk.alloc zj _).alloc (by go_size) _).alloc (by go_size) _)
 have ad:H.heap.size+3=ar.heap.size:=by rw[D];simp
 have o:=qh<|bz D o.o;have r:=qh (show Bxs ar (H.heap.size+1) 32 [.bool l,.slice v d c3,.bool m,.slice x f c4] by have ab:=r.o;simp only[World.size_alloc] at ab;rw[D];exact ab);have z:=qh (show Bxs ar (H.heap.size+1+1) 32 zFv by have ab:=z.o;simp only[World.size_alloc] at ab;rw[D];exact ab);have HW:=qh D;have aa:=qh ad;have I:=qh<|XB i A g c1 M j B h c2 N ar (Z.below a.o) Zo ah (h2.below a.o) Zo ai;have J:=qh (λ(w':World) (c:Bl ar w')=>XB l v d c3 O m x f c4 P w' (h3.below (a.o.trans (c.mono a.o.size))) Zo aj (h4.below (a.o.trans (c.mono a.o.size))) Zo ak);rw[decide_eq_true an] at I;rw[decide_eq_true hk] at J;have BR:=qh (λ(w':World) (c:Bl ar w')=>VP i A g c1 M j B h c2 N l v d c3 O m x f c4 P w' y n hx hy (Z.below (a.o.trans (c.mono a.o.size))) Zo ah (h2.below (a.o.trans (c.mono a.o.size))) Zo ai (h3.below (a.o.trans (c.mono a.o.size))) Zo aj (h4.below (a.o.trans (c.mono a.o.size))) Zo ak);have MK:=qh (λ(F G:Option Addr) (w':World)=>jhh (y.num*(n.den:Int)) (n.num*(y.den:Int)) F G (Ja (y.num*(n.den:Int)).natAbs) (Ja (n.num*(y.den:Int)).natAbs) w');rw[UJ] at MK;simp only[hz] at MK;obtain⟨t,K⟩:=gn (y.num*(n.den:Int));obtain⟨u,L⟩:=gn (n.num*(y.den:Int));obtain⟨Lw,ac⟩:=gn ((y.den:Int)*(n.den:Int));obtain⟨ce,am⟩:=gn (if n=0 then 6 else 0:Int);obtain⟨p,hp⟩:=gn ((y/n).num:Int);obtain⟨q,hq⟩:=gn (if n=0 then 0 else ((y/n).den:Int):Int);rw[<- K,<- L,<- ac] at BR
 rw[<- K,<- L] at HL MK;rw[<- am,<- hp,<- hq] at MK ⊢;clear hk an hx hy Z h2 h3 h4 D ad hz K L ac am hp hq;go_enter func145,ntmps145
 go_upto_region 1 with (fail)
 rw[<- HW.o];clear HW;obtain⟨Q,R,S,T,U,V⟩:=Jg o.o;go_wp2_with fail
 with_reducible refine I.o.mono ?_
 rintro e w1 ⟨rfl,C⟩;clear I Q R S T U V;obtain⟨y0,y1,y2,y3,y4,y5⟩:=Jg (r.o.bl C);go_wp2_with fail
 with_reducible refine(J.o w1 C).mono ?_
 rintro e w2 ⟨rfl,ae⟩;have s:=qh<|C.trans (ae.mono C.size);clear C ae J y0 y1 y2 y3 y4 y5
 go_upto_region 3 with (fail)
 obtain⟨Q,R,S,T,U,V⟩:=Jg (o.o.below s.o o.o.lt);obtain⟨y0,y1,y2,y3,y4,y5⟩:=Jg (r.o.below s.o r.o.lt);go_wp2_with fail
 with_reducible refine(BR.o w2 s.o).mono ?_
 rintro e w3 ⟨F,G,m3,rfl,X,Y,-,c⟩
 go_upto_region 4 with (fail)
 obtain⟨aw,E⟩:=gn ((w3.alloc (.cells #[.bool (decide (t<0)),.slice F (Ja t.natAbs) (Ja t.natAbs),.bool (decide (u<0)),.slice G (Ja u.natAbs) (Ja u.natAbs)] 206)).alloc (.cells #[.bool (decide (Lw<0)),.slice m3 (Ja Lw.natAbs) (Ja Lw.natAbs)] 30));have M4:=qh<|bz E ((Bxs.new w3 206 [.bool (decide (t<0)),.slice F (Ja t.natAbs) (Ja t.natAbs),.bool (decide (u<0)),.slice G (Ja u.natAbs) (Ja u.natAbs)]).alloc _)
 have ag:Bl w2 aw:=by rw[E];exact(c.alloc c.size _).alloc (by have:=c.size;go_size) _
 have s:=qk s ag;have X:=qh (show Own 128 aw w2.heap.size F (Ja t.natAbs) (Ja t.natAbs) (dgi t.natAbs) by rw[E];exact(X.JD _).JD _);have Y:=qh (show Own 128 aw w2.heap.size G (Ja u.natAbs) (Ja u.natAbs) (dgi u.natAbs) by rw[E];exact(Y.JD _).JD _);obtain⟨b4,af⟩:=gn w3.heap.size;rw[<- E];rw[<- af] at M4 ⊢;have MK:=qh<|MK.o F G aw X.o.rd HL.o.1 zj Y.o.rd HL.o.2 zj;have W:=qh<|z.o.below s.o z.o.lt;have a:=qh<|a.o.trans (s.o.mono a.o.size);have au:=qh<|zm (Nat.le_of_eq aa.o) s.o.size;clear E ag c af Q R S T U V y0 y1 y2 y3 y4 y5 o r z BR X Y s aa HL;obtain⟨Q,R,S,T,U,V⟩:=M4.o.d4;go_wp2_with fail
 with_reducible refine MK.o.mono ?_
 rintro e w4 ⟨r1,r2,rfl,Q1,Q2,av,c⟩;have W:=qh<|W.o.bl c;have a:=qk a c;have aB:=au.o;clear Q R S T U V M4 MK c;obtain⟨z0,z1,z2,z3,zf,zl⟩:=Jg W.o;go_wp2;refine bodyPost_ret (Qo rfl _ _ _ _ _ _ _ rfl ((((W.o.put 0 _).put 1 _).put 2 _).put 3 _) underlying32 rfl Zk) rfl ⟨r1,r2,rfl,?_,?_,av,?_⟩
 ·exact((((Q1.oz).oz).oz).oz).mono Zo
 ·exact((((Q2.oz).oz).oz).oz).mono Zo
 ·exact(((a.o.sc).sc).sc).sc
end Limb
end Go.Proofs.YthacfgmdihcffaaGreatDoor
