/-
  The walk of Mul of package limbs.
-/
import Derived.Test.YthacfgmdihcffaaGreatDoorPzTB
import Derived.Lib.SliceRun
import Derived.Deep.DeepCutAuto
import Derived.Deep.RegionHeld3
set_option linter.unusedSimpArgs false
set_option linter.unusedVariables false
set_option maxHeartbeats 16000000
set_option maxRecDepth 100000
open Go.Proofs.Tryz
namespace Go.Proofs.YthacfgmdihcffaaGreatDoor
namespace Limb
open Go.RowKit Go.Sort
theorem QD (d:Bool) (n:Nat) (o:Nat->Int) (f:okN d n o) (g:∀ a,a<n->0<=o a/\o a<=4294967295) :
  decide (Jp d n o<0)=d/\Ja (Jp d n o).natAbs=n/\∀ a,a<n->o a=dgi (Jp d n o).natAbs a :=
 have b:∀ a,a<n->0<=o a:=λa c=>(g a c).1
 ⟨valN_neg f b,je6 f b,λa c=>(valN_dg f b a c).symm⟩
open Classical in
theorem XM (i:Bool) (a:Option Addr) (n b:Nat) (o:Nat->Int) (D:World) (q:Rd D a n o) (C:n<=1000000000) (m:n<=b) :
  ∃ t k,Rd D t (Ja (Jp i n o).natAbs) (dgi (Jp i n o).natAbs)/\Ja (Jp i n o).natAbs<=n/\Ja (Jp i n o).natAbs<=k /\
   ∀ d,Bl D d->Cl 165 #[Jv i a n b] d λe E=>e=.returned (Jv (decide (Jp i n o<0)) t (Ja (Jp i n o).natAbs) k)/\Bl d E:=by
 by_cases j:okN i n o
 ·obtain⟨y,z,A⟩:=QD i n o j q.rng;rw[y,z];refine⟨a,b,q.congr A,zj,m,λd f=>?_⟩;have s:=qh (λ(g:World) (p:Bl d g)=>Qw i a n b o g (q.below (f.trans (p.mono f.size))) C);rw[decide_eq_true j] at s;clear q y z A j f;go_enter func165,ntmps165;go_wp2_with fail
  refine(s.o _ ?_).mono ?_
  ·exact qg
  rintro e g ⟨rfl,c⟩;have r:=((Bx.new d 30 (.bool i) (.slice a n b)).alloc (.cells #[.bool false,.slice none 0 0] 30)).below c (by simp;omega);have h:=(Bx.Zu d (.cells #[.bool i,.slice a n b] 30) 30 (.bool false) (.slice none 0 0)).below c (by simp);have B:Bl d g:=(zk.alloc zj _ |>.alloc (by go_size) _).trans (c.mono (by go_size));obtain⟨F,G,H,I⟩:=r.all;obtain⟨u,v,w,x⟩:=h.all;have l:=qh h;clear c r h;go_wp2;refine bodyPost_ret (Je rfl _ _ _ _ _ _ _ rfl (l.o.set _ _) underlying30 rfl Zk) rfl ⟨rfl,?_⟩;exact qg
 ·rw[show Jp i n o=0 from je5 j];rw[show(Int.natAbs 0)=0 from rfl,Jw,show decide ((0:Int)<0)=false from rfl];refine⟨none,0,Rd.nil _ _ _,Nat.zero_le _,zj,λd f=>?_⟩;have s:=qh (λ(g:World) (p:Bl d g)=>Qw i a n b o g (q.below (f.trans (p.mono f.size))) C);rw[zo j] at s;clear q j f;go_enter func165,ntmps165;go_wp2_with fail
  refine(s.o _ ?_).mono ?_
  ·exact qg
  rintro e g ⟨rfl,c⟩;have h:=(Bx.Zu d (.cells #[.bool i,.slice a n b] 30) 30 (.bool false) (.slice none 0 0)).below c (by simp);have B:Bl d g:=(zk.alloc zj _ |>.alloc (by go_size) _).trans (c.mono (by go_size));obtain⟨u,v,w,x⟩:=h.all;have l:=qh h;clear c h;go_wp2;refine bodyPost_ret (Je rfl _ _ _ _ _ _ _ rfl (l.o.set _ _) underlying30 rfl Zk) rfl ⟨rfl,?_⟩;exact qg
theorem JW {o:Nat->Int} {n:Nat} (a:Dig o n):Ja (Jj o n).toNat<=n:=Xg (by have:=JB a;omega)
theorem jfm {o:Nat->Int} {n i:Nat} (c:Dig o n) (a:Ja (Jj o n).toNat<=i) (b:i<n):o i=0:=by
 rw[<- Zt c i b,dg_out a];rfl
theorem jfn {o:Nat->Int} {n:Nat} (b:Dig o n) (a:0<Ja (Jj o n).toNat):o (Ja (Jj o n).toNat-1)≠0:=by
 have c:=JW b;rw[<- Zt b _ Zo];have:=Uh (m:=(Jj o n).toNat) (λe=>by rw[e,Jw] at a;omega);omega
theorem Zw (y:Bool) (a:Option Addr) (n g:Nat) (o:Nat->Int) (l:World) (C:Rd l a n o) (h:Dig o n) (M:n<=1000000000) (A:n<=g) (I:a=none->g=0) :
  Cl 166 #[.bool y,.slice a n g] l λe B=>e=.returned (Jv (y&&decide (0<Ja (Jj o n).toNat)) a (Ja (Jj o n).toNat) (Ja (Jj o n).toNat))/\Bl l B:=by
 have HL:=qh<|JW h;have q:=qh (λk=>jfm (i:=k) h);have p:=qh<|jfn h
 generalize Ja (Jj o n).toNat=L at HL q p ⊢
 clear h;have E:=C.rng;have m:=qh<|Bx.new l 30 (.bool false) (.slice none 0 0);go_enter func166,ntmps166;go_wp2;go_loopw [5] (λk wr=>∃ i:Nat,L<=i/\i<=n/\k=.int .i64 i/\∃ O,wr=(l.alloc (.cells #[.bool false,.slice none 0 0] 30)).drewN O) (λk _=>(intOf k).toNat)
 case atStart=>exact⟨n,HL.o,zj,rfl,0,rfl⟩
 case round =>
  obtain⟨i,K,D,rfl,j,rfl⟩:=hrel;by_cases v:i=0
  ·obtain rfl:L=0:=Zo;subst v;have c:=m.o.drewN j;obtain⟨r,s,t,u⟩:=c.all;have f:=qh c;clear c
   cases y with
   | false =>
    go_wp2
    all_goals
     refine bodyPost_ret (Je rfl _ _ _ _ _ _ _ rfl (f.o.set _ _) underlying30 rfl Zk) rfl ⟨rfl,?_⟩
     exact qg
   | true =>
    go_wp2
    all_goals
     refine bodyPost_ret (Je rfl _ _ _ _ _ _ _ rfl (f.o.set _ _) underlying30 rfl Zk) rfl ⟨rfl,?_⟩;exact qg
  ·obtain⟨d,rfl⟩:∃ d,i=d+1:=⟨i-1,Zo⟩;obtain⟨b,off,rfl,z⟩:=C.cells Zo;have c1:=z d Zo;have J:b<l.heap.size:=block_lt_of_cell c1;have H:((d+1:Nat):Int)-1=(d:Int):=Zo;by_cases w:d+1=L
   ·subst w;have x:o d≠0:=p.o Zo
    have F:(o d==0)=false:=by simpa using x
    have N:((d+1:Nat):Int)>0:=Zo;have G:=qh (show decide (0<d+1)=true by simp);have c:=m.o.drewN j;obtain⟨r,s,t,u⟩:=c.all;have f:=qh c;clear c
    cases y with
    | false =>
     go_wp2
     all_goals
      refine bodyPost_ret (Je rfl _ _ _ _ _ _ _ rfl (f.o.set _ _) underlying30 rfl Zk) rfl ⟨rfl,?_⟩
      exact qg
    | true =>
     go_wp2
     all_goals
      refine bodyPost_ret (Je rfl _ _ _ _ _ _ _ rfl (f.o.set _ _) underlying30 rfl Zk) rfl ⟨by rw[G.o];rfl,?_⟩;exact qg
   ·have x:=q.o d Zo Zo;go_wp2;go_roundw
    case rel=>exact⟨d,Zo,Zo,rfl,j,rfl⟩
    case measure=>simp[intOf]
end Limb
namespace Mono
open Go.RowKit Go.Sort
variable {a b:Nat->Int}
def JH (n:Int):Int:=if 0<n then 1 else if n<0 then -1 else 0
theorem Xj (d f:Int):JH (d-f)=Js d f:=by
 unfold JH Js;by_cases g:d<f
 ·rw[if_pos g,if_neg Zo,if_pos Zo]
 ·rw[if_neg g];by_cases c:f<d
  ·rw[if_pos c,if_pos Zo]
  ·rw[if_neg c,if_neg Zo,if_neg Zo]
theorem KL {d f:Int}:Js d f=0↔d=f:=by
 unfold Js;by_cases g:d<f
 ·simp[g];omega
 ·by_cases c:f<d
  ·simp[g,c];omega
  ·simp[g,c];omega
theorem jjn:Xn a b=0↔∀ k,k<4->a k=b k:=by
 obtain⟨k,d⟩:=ZP a b;rw[ZQ d];by_cases c:k<4
 ·rw[if_pos c,KL];exact⟨λe=>absurd e (d.2.2 c),λe=>e k c⟩
 ·rw[if_neg c];exact⟨λ_ g f=>d.2.1 g Zo,λ_=>rfl⟩
theorem jjo (c:Xn (XF b) (XF a)=0):Xn a b=0:=by
 rw[jjn] at c ⊢;intro k d;have:=c (3-k) Zo;simp only[XF] at this;rw[show 3-(3-k)=k by omega] at this;exact this.symm
def tailM (o:Int) (a b:Nat->Int):Int:=if o=2 then Xn (XF b) (XF a) else Xn a b
theorem jal {o:Int} (d:o=1\/o=2) (f:¬JF a=JF b):XN o a b=JH (JF a-JF b):=by
 have c:¬Js (JF a) (JF b)=0:=λe=>f (KL.1 e)
 rw[Xj];unfold XN
 rcases d with rfl | rfl
 ·rw[if_pos rfl,if_neg c]
 ·rw[if_neg Zo,if_pos rfl,if_neg c]
theorem KQ {o:Int} (g:(o=1\/o=2)->JF a=JF b):XN o a b=tailM o a b:=by
 unfold XN tailM;by_cases f:o=1
 ·rw[if_pos f,if_pos (KL.2 (g (Or.inl f))),if_neg (show ¬o=2 by omega)]
 ·rw[if_neg f];by_cases c:o=2
  ·rw[if_pos c,if_pos c,if_pos (KL.2 (g (Or.inr c)))];by_cases d:Xn (XF b) (XF a)=0
   ·rw[if_pos d,d];exact jjo d
   ·rw[if_neg d]
  ·rw[if_neg c,if_neg c]
theorem jjp (a b:Nat->Int) (A:¬JF a=JF b) (m:World) (x:Small a) (y:Small b) :
  Cl 37 #[.int .u8 1,mvf a,mvf b] m λe E=>e=.returned (.int .i64 (XN 1 a b))/\Bl m E:=by
 have f:=qh x;clear x;have g:=qh y;clear y;have d:=qh<|boxes m 35 a b;have F:=qh<|jal (o:=1) Zo A;obtain⟨n,p,q,r⟩:=YV d.o.1;obtain⟨s,t,u,v⟩:=YV d.o.2
 have G:0<=JF a/\JF a<=262140:=by have:=f.o 0 Zo;have:=f.o 1 Zo;have:=f.o 2 Zo;have:=f.o 3 Zo;unfold JF;omega
 have d2:0<=JF b/\JF b<=262140:=by have:=g.o 0 Zo;have:=g.o 1 Zo;have:=g.o 2 Zo;have:=g.o 3 Zo;unfold JF;omega
 have w:=IntWalk.i64_in (JF a-JF b) Zo
 have H:(JF a-JF b != 0)=true:=by simp;omega
 rcases Int.lt_or_gt_of_ne A with D | D
 ·have k:=qh (show JH (JF a-JF b) = -1 by unfold JH;rw[if_neg Zo,if_pos Zo]);clear A;go_enter func37,ntmps37;go_wp2;refine wp_region_quiet_below Zk Zk ?_
  repeat (go_big_quiet_step (first
   | (go_at_call 107;first | (with_reducible exact Calls.regrown_of (JX a _ f.o)) | (with_reducible exact Calls.regrown_of (JX b _ g.o)))))
  refine wpQuiet_nil ?_;intro j i;obtain⟨z,h⟩:=i;have c:=below_regrown ((m.alloc (.cells (Qu a) 35)).alloc (.cells (Qu b) 35)) z.d z.os;rw[<- show j=_ from h] at c;clear h;have B:=qh<|Ju d.o.1 c (by simp;omega);have C:=qh<|Ju d.o.2 c (by simp);have l:=qh (zk.alloc zj _ |>.alloc (by go_size) _ |>.trans (c.mono (by go_size)):Bl m j);clear c w n p q r s t u v d;go_wp2;go_ret;exact⟨by rw[F.o,k.o];rfl,l.o⟩
 ·have k:=qh (show JH (JF a-JF b)=1 by unfold JH;rw[if_pos Zo]);clear A;go_enter func37,ntmps37;go_wp2;refine wp_region_quiet_below Zk Zk ?_
  repeat (go_big_quiet_step (first
   | (go_at_call 107;first | (with_reducible exact Calls.regrown_of (JX a _ f.o)) | (with_reducible exact Calls.regrown_of (JX b _ g.o)))))
  refine wpQuiet_nil ?_;intro j i;obtain⟨z,h⟩:=i;have c:=below_regrown ((m.alloc (.cells (Qu a) 35)).alloc (.cells (Qu b) 35)) z.d z.os;rw[<- show j=_ from h] at c;clear h;have B:=qh<|Ju d.o.1 c (by simp;omega);have C:=qh<|Ju d.o.2 c (by simp);have l:=qh (zk.alloc zj _ |>.alloc (by go_size) _ |>.trans (c.mono (by go_size)):Bl m j);clear c w n p q r s t u v d;go_wp2;go_ret;exact⟨by rw[F.o,k.o];rfl,l.o⟩
theorem jjq (a b:Nat->Int) (A:¬JF a=JF b) (m:World) (x:Small a) (y:Small b) :
  Cl 37 #[.int .u8 2,mvf a,mvf b] m λe E=>e=.returned (.int .i64 (XN 2 a b))/\Bl m E:=by
 have f:=qh x;clear x;have g:=qh y;clear y;have d:=qh<|boxes m 35 a b;have F:=qh<|jal (o:=2) Zo A;obtain⟨n,p,q,r⟩:=YV d.o.1;obtain⟨s,t,u,v⟩:=YV d.o.2
 have G:0<=JF a/\JF a<=262140:=by have:=f.o 0 Zo;have:=f.o 1 Zo;have:=f.o 2 Zo;have:=f.o 3 Zo;unfold JF;omega
 have d2:0<=JF b/\JF b<=262140:=by have:=g.o 0 Zo;have:=g.o 1 Zo;have:=g.o 2 Zo;have:=g.o 3 Zo;unfold JF;omega
 have w:=IntWalk.i64_in (JF a-JF b) Zo
 have H:(JF a-JF b != 0)=true:=by simp;omega
 rcases Int.lt_or_gt_of_ne A with D | D
 ·have k:=qh (show JH (JF a-JF b) = -1 by unfold JH;rw[if_neg Zo,if_pos Zo]);clear A;go_enter func37,ntmps37;go_wp2;refine wp_region_quiet_below Zk Zk ?_
  repeat (go_big_quiet_step (first
   | (go_at_call 107;first | (with_reducible exact Calls.regrown_of (JX a _ f.o)) | (with_reducible exact Calls.regrown_of (JX b _ g.o)))))
  refine wpQuiet_nil ?_;intro j i;obtain⟨z,h⟩:=i;have c:=below_regrown ((m.alloc (.cells (Qu a) 35)).alloc (.cells (Qu b) 35)) z.d z.os;rw[<- show j=_ from h] at c;clear h;have B:=qh<|Ju d.o.1 c (by simp;omega);have C:=qh<|Ju d.o.2 c (by simp);have l:=qh (zk.alloc zj _ |>.alloc (by go_size) _ |>.trans (c.mono (by go_size)):Bl m j);clear c w n p q r s t u v d;go_wp2;go_ret;exact⟨by rw[F.o,k.o];rfl,l.o⟩
 ·have k:=qh (show JH (JF a-JF b)=1 by unfold JH;rw[if_pos Zo]);clear A;go_enter func37,ntmps37;go_wp2;refine wp_region_quiet_below Zk Zk ?_
  repeat (go_big_quiet_step (first
   | (go_at_call 107;first | (with_reducible exact Calls.regrown_of (JX a _ f.o)) | (with_reducible exact Calls.regrown_of (JX b _ g.o)))))
  refine wpQuiet_nil ?_;intro j i;obtain⟨z,h⟩:=i;have c:=below_regrown ((m.alloc (.cells (Qu a) 35)).alloc (.cells (Qu b) 35)) z.d z.os;rw[<- show j=_ from h] at c;clear h;have B:=qh<|Ju d.o.1 c (by simp;omega);have C:=qh<|Ju d.o.2 c (by simp);have l:=qh (zk.alloc zj _ |>.alloc (by go_size) _ |>.trans (c.mono (by go_size)):Bl m j);clear c w n p q r s t u v d;go_wp2;go_ret;exact⟨by rw[F.o,k.o];rfl,l.o⟩
theorem jjr (a b:Nat->Int) (S:JF a=JF b) (l:World) (x:Small a) (y:Small b) :
  Cl 37 #[.int .u8 1,mvf a,mvf b] l λe P=>e=.returned (.int .i64 (XN 1 a b))/\Bl l P:=by
 have f:=qh x;clear x;have g:=qh y;clear y;have h:=qh<|boxes l 35 a b;have U:=qh (show XN 1 a b=Xn a b by rw[KQ (λ_=>S)];rfl);obtain⟨F,G,H,I⟩:=YV h.o.1;obtain⟨J,K,L,M⟩:=YV h.o.2;have w:=IntWalk.i64_in (JF a-JF b) (by have:=f.o 0 Zo;have:=f.o 1 Zo;have:=f.o 2 Zo;have:=f.o 3 Zo;have:=g.o 0 Zo;have:=g.o 1 Zo;have:=g.o 2 Zo;have:=g.o 3 Zo;unfold JF;omega)
 have Z:(JF a-JF b != 0)=false:=by simp;omega
 clear S;go_enter func37,ntmps37;go_wp2;refine wp_region_quiet_below Zk Zk ?_
 repeat (go_big_quiet_step (first
  | (go_at_call 107;first | (with_reducible exact Calls.regrown_of (JX a _ f.o)) | (with_reducible exact Calls.regrown_of (JX b _ g.o)))))
 refine wpQuiet_nil ?_;intro D C;obtain⟨T,B⟩:=C;have d:=below_regrown ((l.alloc (.cells (Qu a) 35)).alloc (.cells (Qu b) 35)) T.d T.os;rw[<- show D=_ from B] at d;clear B;have q:=qh<|Ju h.o.1 d (by simp;omega);have r:=qh<|Ju h.o.2 d (by simp);have s:=qh (zk.alloc zj _ |>.alloc (by go_size) _ |>.trans (d.mono (by go_size)):Bl l D);clear d w F G H I J K L M h;go_wp2_with fail
 obtain⟨p,i⟩:=ZP a b;have Q:=qh<|(U.o).trans (ZQ i);have X:=i.1;have EQ:=qh i.2.1;have t:=qh i.2.2;clear i;go_loopw [9] (λO wr=>∃ k:Nat,k<=p/\O=.int .i64 k/\wr.rowIs l.heap.size 35 4 (cell a)/\wr.rowIs (l.heap.size+1) 35 4 (cell b)/\Bl l wr) (λO _=>4-(intOf O).toNat)
 case atStart=>exact⟨0,Zo,rfl,q.o,r.o,s.o⟩
 case round =>
  obtain⟨k,Y,rfl,n,o,R⟩:=hrel;clear q r s;have j:=qh R;clear R;by_cases c:k<4
  ·have c1:=n.cell c;have c2:=o.cell c;have s1:=(f.o k c);have s2:=(g.o k c);have u:=qh n;have v:=qh o;clear n o;by_cases z:k<p
   ·have A:(a k != b k)=false:=by rw[EQ.o k z];simp
    go_wp2;go_quiet (fail);go_wp2;go_roundw
    case rel=>exact⟨k+1,Zo,by go_num,u.o.of_block rfl,v.o.of_block rfl,below_drewN j.o _⟩
    case measure=>simp[intOf];omega
   ·obtain rfl:k=p:=Zo
    have A:(a k != b k)=true:=by have:=t.o c;simpa using this
    have E:=qh (show XN 1 a b=JH (a k-b k) by rw[Q.o,if_pos c,Xj]);have V:=IntWalk.i64_in (a k) Zo;have W:=IntWalk.i64_in (b k) Zo;have w:=IntWalk.i64_in (a k-b k) Zo
    rcases Int.lt_or_gt_of_ne (t.o c) with N | N
    ·have m:=qh (show JH (a k-b k) = -1 by unfold JH;rw[if_neg Zo,if_pos Zo]);go_wp2;go_quiet (fail);go_wp2;go_quiet (fail);go_wp2;go_ret;exact⟨by rw[E.o,m.o];rfl,below_drewN (below_drewN j.o _) _⟩
    ·have m:=qh (show JH (a k-b k)=1 by unfold JH;rw[if_pos Zo]);go_wp2;go_quiet (fail);go_wp2;go_quiet (fail);go_wp2;go_ret;exact⟨by rw[E.o,m.o];rfl,below_drewN (below_drewN j.o _) _⟩
  ·have E:=qh (show XN 1 a b=0 by rw[Q.o,if_neg Zo]);obtain rfl:k=4:=Zo;go_wp2;go_ret;exact⟨by rw[E.o];rfl,j.o⟩
theorem rcmp_fwd (a b:Nat->Int) (o:Int) (D:(o==1)=false) (u:(o==2)=false) (g:World) (v:Small a) (w:Small b) :
  Cl 37 #[.int .u8 o,mvf a,mvf b] g λe G=>e=.returned (.int .i64 (XN o a b))/\Bl g G:=by
 have A:=qh v;clear v;have B:=qh w;clear w;have i:=qh<|boxes g 35 a b;have J:=qh (show XN o a b=Xn a b by rw[KQ (λE=>absurd E (by simp at D u;omega))];unfold tailM;rw[if_neg (by simpa using u)]);go_enter func37,ntmps37;go_wp2_with fail
 have n:=qh i.o.1;have p:=qh i.o.2;have q:=qh (zk.alloc zj _ |>.alloc (by go_size) _:Bl g ((g.alloc (.cells (Qu a) 35)).alloc (.cells (Qu b) 35)));clear i;obtain⟨m,d⟩:=ZP a b;have H:=qh<|(J.o).trans (ZQ d);have N:=d.1;have EQ:=qh d.2.1;have r:=qh d.2.2;clear d;go_loopw [9] (λF wr=>∃ k:Nat,k<=m/\F=.int .i64 k/\wr.rowIs g.heap.size 35 4 (cell a)/\wr.rowIs (g.heap.size+1) 35 4 (cell b)/\Bl g wr) (λF _=>4-(intOf F).toNat)
 case atStart=>exact⟨0,Zo,rfl,n.o,p.o,q.o⟩
 case round =>
  obtain⟨k,O,rfl,j,l,I⟩:=hrel;clear n p q;have f:=qh I;clear I;by_cases c:k<4
  ·have c1:=j.cell c;have c2:=l.cell c;have P:=(A.o k c);have Q:=(B.o k c);have s:=qh j;have t:=qh l;clear j l;by_cases x:k<m
   ·have y:(a k != b k)=false:=by rw[EQ.o k x];simp
    go_wp2;go_quiet (fail);go_wp2;go_roundw
    case rel=>exact⟨k+1,Zo,by go_num,s.o.of_block rfl,t.o.of_block rfl,below_drewN f.o _⟩
    case measure=>simp[intOf];omega
   ·obtain rfl:k=m:=Zo
    have y:(a k != b k)=true:=by have:=r.o c;simpa using this
    have z:=qh (show XN o a b=JH (a k-b k) by rw[H.o,if_pos c,Xj]);have K:=IntWalk.i64_in (a k) Zo;have L:=IntWalk.i64_in (b k) Zo;have M:=IntWalk.i64_in (a k-b k) Zo
    rcases Int.lt_or_gt_of_ne (r.o c) with C | C
    ·have h:=qh (show JH (a k-b k) = -1 by unfold JH;rw[if_neg Zo,if_pos Zo]);go_wp2;go_quiet (fail);go_wp2;go_quiet (fail);go_wp2;go_ret;exact⟨by rw[z.o,h.o];rfl,below_drewN (below_drewN f.o _) _⟩
    ·have h:=qh (show JH (a k-b k)=1 by unfold JH;rw[if_pos Zo]);go_wp2;go_quiet (fail);go_wp2;go_quiet (fail);go_wp2;go_ret;exact⟨by rw[z.o,h.o];rfl,below_drewN (below_drewN f.o _) _⟩
  ·have z:=qh (show XN o a b=0 by rw[H.o,if_neg Zo]);obtain rfl:k=4:=Zo;go_wp2;go_ret;exact⟨by rw[z.o];rfl,f.o⟩
theorem rcmp_bwd (a b:Nat->Int) (X:JF a=JF b) (x:World) (I:Small a) (J:Small b) :
  Cl 37 #[.int .u8 2,mvf a,mvf b] x λe V=>e=.returned (.int .i64 (XN 2 a b))/\Bl x V:=by
 have l:=qh I;clear I;have m:=qh J;clear J;have r:=qh<|boxes x 35 a b;have Z:=qh (show XN 2 a b=Xn (XF b) (XF a) by rw[KQ (λ_=>X)];rfl);obtain⟨N,O,P,Q⟩:=YV r.o.1;obtain⟨R,S,T,U⟩:=YV r.o.2;have s:=IntWalk.i64_in (JF a-JF b) (by have:=l.o 0 Zo;have:=l.o 1 Zo;have:=l.o 2 Zo;have:=l.o 3 Zo;have:=m.o 0 Zo;have:=m.o 1 Zo;have:=m.o 2 Zo;have:=m.o 3 Zo;unfold JF;omega)
 have hz:(JF a-JF b != 0)=false:=by simp;omega
 clear X;go_enter func37,ntmps37;go_wp2;refine wp_region_quiet_below Zk Zk ?_
 repeat (go_big_quiet_step (first
  | (go_at_call 107;first | (with_reducible exact Calls.regrown_of (JX a _ l.o)) | (with_reducible exact Calls.regrown_of (JX b _ m.o)))))
 refine wpQuiet_nil ?_;intro M L;obtain⟨Y,K⟩:=L;have o:=below_regrown ((x.alloc (.cells (Qu a) 35)).alloc (.cells (Qu b) 35)) Y.d Y.os;rw[<- show M=_ from K] at o;clear K;have C:=qh<|Ju r.o.1 o (by simp;omega);have D:=qh<|Ju r.o.2 o (by simp);have F:=qh (zk.alloc zj _ |>.alloc (by go_size) _ |>.trans (o.mono (by go_size)):Bl x M);clear o s N O P Q R S T U r;go_wp2_with fail
 obtain⟨n,t⟩:=ZP (XF b) (XF a);have E:=qh<|(Z.o).trans (ZQ t);have h4:=t.1;have EQ:=qh t.2.1;have w:=qh t.2.2;clear t;go_loopw [8] (λv wr=>∃ k:Nat,k<=n/\v=.int .i64 (3-(k:Int))/\wr.rowIs x.heap.size 35 4 (cell a)/\wr.rowIs (x.heap.size+1) 35 4 (cell b)/\Bl x wr) (λv _=>(1+intOf v).toNat)
 case atStart=>exact⟨0,Zo,rfl,C.o,D.o,F.o⟩
 case round =>
  obtain⟨k,hk,rfl,G,H,W⟩:=hrel;clear C D F;have f:=qh W;have g:=qh G;have h:=qh H;clear W G H;have u:k=0\/k=1\/k=2\/k=3\/k=4:=Zo
  rcases u with rfl | rfl | rfl | rfl | rfl
  ·rw[show((3:Int)-((0:Nat):Int))=3 from rfl];have c1:=g.o.cell (i:=3) Zo;have c2:=h.o.cell (i:=3) Zo;have A:=l.o 3 Zo;have B:=m.o 3 Zo;by_cases i:0<n
   ·have j:(a 3 != b 3)=false:=by have e:b 3=a 3:=EQ.o 0 i;rw[e];simp
    go_wp2;go_quiet (fail);go_wp2;go_roundw
    case rel=>exact⟨1,Zo,by rfl,g.o.of_block rfl,h.o.of_block rfl,below_drewN f.o _⟩
    case measure=>simp[intOf]
   ·obtain rfl:n=0:=Zo;have c:¬b 3=a 3:=w.o Zo
    have j:(a 3 != b 3)=true:=by simp;omega
    have q:=qh (show XN 2 a b=JH (b 3-a 3) by rw[E.o,if_pos Zo,Xj];rfl);have y:=IntWalk.i64_in (a 3) Zo;have z:=IntWalk.i64_in (b 3) Zo;have s:=IntWalk.i64_in (b 3-a 3) Zo
    rcases Int.lt_or_gt_of_ne c with p | p
    ·have d:=qh (show JH (b 3-a 3) = -1 by unfold JH;rw[if_neg Zo,if_pos Zo]);clear c;go_wp2;go_quiet (fail);go_wp2;go_quiet (fail);go_wp2;go_ret;exact⟨by rw[q.o,d.o];rfl,below_drewN (below_drewN f.o _) _⟩
    ·have d:=qh (show JH (b 3-a 3)=1 by unfold JH;rw[if_pos Zo]);clear c;go_wp2;go_quiet (fail);go_wp2;go_quiet (fail);go_wp2;go_ret;exact⟨by rw[q.o,d.o];rfl,below_drewN (below_drewN f.o _) _⟩
  ·rw[show((3:Int)-((1:Nat):Int))=2 from rfl];have c1:=g.o.cell (i:=2) Zo;have c2:=h.o.cell (i:=2) Zo;have A:=l.o 2 Zo;have B:=m.o 2 Zo;by_cases i:1<n
   ·have j:(a 2 != b 2)=false:=by have e:b 2=a 2:=EQ.o 1 i;rw[e];simp
    go_wp2;go_quiet (fail);go_wp2;go_roundw
    case rel=>exact⟨2,Zo,by rfl,g.o.of_block rfl,h.o.of_block rfl,below_drewN f.o _⟩
    case measure=>simp[intOf]
   ·obtain rfl:n=1:=Zo;have c:¬b 2=a 2:=w.o Zo
    have j:(a 2 != b 2)=true:=by simp;omega
    have q:=qh (show XN 2 a b=JH (b 2-a 2) by rw[E.o,if_pos Zo,Xj];rfl);have y:=IntWalk.i64_in (a 2) Zo;have z:=IntWalk.i64_in (b 2) Zo;have s:=IntWalk.i64_in (b 2-a 2) Zo
    rcases Int.lt_or_gt_of_ne c with p | p
    ·have d:=qh (show JH (b 2-a 2) = -1 by unfold JH;rw[if_neg Zo,if_pos Zo]);clear c;go_wp2;go_quiet (fail);go_wp2;go_quiet (fail);go_wp2;go_ret;exact⟨by rw[q.o,d.o];rfl,below_drewN (below_drewN f.o _) _⟩
    ·have d:=qh (show JH (b 2-a 2)=1 by unfold JH;rw[if_pos Zo]);clear c;go_wp2;go_quiet (fail);go_wp2;go_quiet (fail);go_wp2;go_ret;exact⟨by rw[q.o,d.o];rfl,below_drewN (below_drewN f.o _) _⟩
  ·rw[show((3:Int)-((2:Nat):Int))=1 from rfl];have c1:=g.o.cell (i:=1) Zo;have c2:=h.o.cell (i:=1) Zo;have A:=l.o 1 Zo;have B:=m.o 1 Zo;by_cases i:2<n
   ·have j:(a 1 != b 1)=false:=by have e:b 1=a 1:=EQ.o 2 i;rw[e];simp
    go_wp2;go_quiet (fail);go_wp2;go_roundw
    case rel=>exact⟨3,Zo,by rfl,g.o.of_block rfl,h.o.of_block rfl,below_drewN f.o _⟩
    case measure=>simp[intOf]
   ·obtain rfl:n=2:=Zo;have c:¬b 1=a 1:=w.o Zo
    have j:(a 1 != b 1)=true:=by simp;omega
    have q:=qh (show XN 2 a b=JH (b 1-a 1) by rw[E.o,if_pos Zo,Xj];rfl);have y:=IntWalk.i64_in (a 1) Zo;have z:=IntWalk.i64_in (b 1) Zo;have s:=IntWalk.i64_in (b 1-a 1) Zo
    rcases Int.lt_or_gt_of_ne c with p | p
    ·have d:=qh (show JH (b 1-a 1) = -1 by unfold JH;rw[if_neg Zo,if_pos Zo]);clear c;go_wp2;go_quiet (fail);go_wp2;go_quiet (fail);go_wp2;go_ret;exact⟨by rw[q.o,d.o];rfl,below_drewN (below_drewN f.o _) _⟩
    ·have d:=qh (show JH (b 1-a 1)=1 by unfold JH;rw[if_pos Zo]);clear c;go_wp2;go_quiet (fail);go_wp2;go_quiet (fail);go_wp2;go_ret;exact⟨by rw[q.o,d.o];rfl,below_drewN (below_drewN f.o _) _⟩
  ·rw[show((3:Int)-((3:Nat):Int))=0 from rfl];have c1:=g.o.cell (i:=0) Zo;have c2:=h.o.cell (i:=0) Zo;have A:=l.o 0 Zo;have B:=m.o 0 Zo;by_cases i:3<n
   ·have j:(a 0 != b 0)=false:=by have e:b 0=a 0:=EQ.o 3 i;rw[e];simp
    go_wp2;go_quiet (fail);go_wp2;go_roundw
    case rel=>exact⟨4,Zo,by rfl,g.o.of_block rfl,h.o.of_block rfl,below_drewN f.o _⟩
    case measure=>simp[intOf]
   ·obtain rfl:n=3:=Zo;have c:¬b 0=a 0:=w.o Zo
    have j:(a 0 != b 0)=true:=by simp;omega
    have q:=qh (show XN 2 a b=JH (b 0-a 0) by rw[E.o,if_pos Zo,Xj];rfl);have y:=IntWalk.i64_in (a 0) Zo;have z:=IntWalk.i64_in (b 0) Zo;have s:=IntWalk.i64_in (b 0-a 0) Zo
    rcases Int.lt_or_gt_of_ne c with p | p
    ·have d:=qh (show JH (b 0-a 0) = -1 by unfold JH;rw[if_neg Zo,if_pos Zo]);clear c;go_wp2;go_quiet (fail);go_wp2;go_quiet (fail);go_wp2;go_ret;exact⟨by rw[q.o,d.o];rfl,below_drewN (below_drewN f.o _) _⟩
    ·have d:=qh (show JH (b 0-a 0)=1 by unfold JH;rw[if_pos Zo]);clear c;go_wp2;go_quiet (fail);go_wp2;go_quiet (fail);go_wp2;go_ret;exact⟨by rw[q.o,d.o];rfl,below_drewN (below_drewN f.o _) _⟩
  ·rw[show((3:Int)-((4:Nat):Int)) = -1 from rfl];have q:=qh (show XN 2 a b=0 by rw[E.o,if_neg Zo]);go_wp2;go_ret;exact⟨by rw[q.o];rfl,f.o⟩
theorem rcmp_any (o:Int) (a b:Nat->Int) (f:World) (c:Small a) (d:Small b) :
  Cl 37 #[.int .u8 o,mvf a,mvf b] f λe j=>e=.returned (.int .i64 (XN o a b))/\Bl f j:=by
 by_cases h:o=1
 ·subst h;by_cases g:JF a=JF b
  ·exact jjr a b g f c d
  ·exact jjp a b g f c d
 ·by_cases i:o=2
  ·subst i;by_cases g:JF a=JF b
   ·exact rcmp_bwd a b g f c d
   ·exact jjq a b g f c d
  ·exact rcmp_fwd a b o (by simpa using h) (by simpa using i) f c d
end Mono
namespace Pol
def Pr (p:Nat):Prop:=2<=p/\∀ a b:Int,(p:Int) ∣ a*b->(p:Int) ∣ a\/(p:Int) ∣ b
theorem pr_ex:∀ n:Nat,2<=n->∃ k,Pr k/\k ∣ n:=by
 intro n
 induction n using Nat.strongRecOn with
 | ind n ih =>
  intro m;by_cases i:∃ f,2<=f/\f<n/\f ∣ n
  ·obtain⟨f,c,g,l⟩:=i;obtain⟨k,o,j⟩:=ih f g c;exact⟨k,o,Nat.dvd_trans j l⟩
  ·refine⟨n,⟨m,λa b h=>?_⟩,Nat.dvd_refl n⟩
   have d:n ∣ a.natAbs*b.natAbs:=by
    have:=Int.natAbs_dvd_natAbs.2 h;rwa [Int.natAbs_mul,Int.natAbs_natCast] at this
   have hg:Nat.gcd n a.natAbs ∣ n:=Nat.gcd_dvd_left _ _;have p:0<Nat.gcd n a.natAbs:=Nat.gcd_pos_of_pos_left _ Zo;have q:Nat.gcd n a.natAbs<=n:=Nat.le_of_dvd Zo hg;by_cases c:Nat.gcd n a.natAbs=1
   ·right;have:n ∣ b.natAbs:=Nat.Coprime.dvd_of_dvd_mul_left c d;exact Int.natAbs_dvd_natAbs.1 (by rwa [Int.natAbs_natCast])
   ·left
    have:Nat.gcd n a.natAbs=n:=by
     refine Classical.byContradiction λr=>i ⟨_,?_,?_,hg⟩ <;> omega
    have g:n ∣ a.natAbs:=by rw[<- this];exact Nat.gcd_dvd_right _ _
    exact Int.natAbs_dvd_natAbs.1 (by rwa [Int.natAbs_natCast])
theorem Pr.one {d:Nat} (f:Pr d):¬(d:Int) ∣ 1:=λc=>by
 have:=Int.natAbs_dvd_natAbs.2 c;rw[Int.natAbs_natCast] at this;have:=Nat.le_of_dvd Ze this;have:=f.1;simp at *;omega
structure Prm (P:List Tm):Prop where
 whole:∀ t∈P,∃ z:Int,t.2=(z:Rat)
 alone:∀ p,Pr p->∃ t∈P,∀ z:Int,t.2=(z:Rat)->¬(p:Int) ∣ z
 first:∀ t r,P=t :: r->0<t.2
def IsC (P:List Tm) (c:Rat):Prop:=c≠0/\∃ Q,Prm Q/\P=JZ c Q
theorem Prm.some {f:List Tm} (g:Prm f):f≠[]:=λe=>by
 obtain⟨h,d,_⟩:=pr_ex 2 (Nat.le_refl 2);obtain⟨i,c,_⟩:=g.alone h d;rw[e] at c
 cases c
theorem cast_inj {a b:Int} (c:(a:Rat)=(b:Rat)):a=b:=Rat.intCast_inj.1 c
end Pol
namespace Pol
variable {P Q:List Tm} {p:Nat} {a b c:Rat} {f:Mo->Rat}
def Wz (q:Rat):Prop:=∃ z:Int,q=(z:Rat)
theorem Wz.add (h:Wz a) (k:Wz b):Wz (a+b):=by
 obtain⟨d,rfl⟩:=h;obtain⟨g,rfl⟩:=k;exact⟨d+g,(Rat.intCast_add d g).symm⟩
theorem Wz.mul (h:Wz a) (k:Wz b):Wz (a*b):=by
 obtain⟨d,rfl⟩:=h;obtain⟨g,rfl⟩:=k;exact⟨d*g,(Rat.intCast_mul d g).symm⟩
theorem Wz.zero:Wz 0:=⟨0,rfl⟩
theorem Wz.one:Wz 1:=⟨1,rfl⟩
theorem ev_wz (d:∀ k,Wz (f k)):∀ {j:List Tm},(∀ g∈j,Wz g.2)->Wz (ev j f)
 | [],_=>Wz.zero
 | g :: _,h=>((h g (List.mem_cons_self ..)).mul (d g.1)).add (ev_wz d λl i=>h l (List.mem_cons_of_mem _ i))
theorem at_wz (d a:Mo):Wz (at_ d a):=by
 unfold at_;split
 ·exact Wz.one
 ·exact Wz.zero
def Dz (p:Nat) (q:Rat):Prop:=∃ z:Int,q=(((p:Int)*z:Int):Rat)
theorem Dz.zero (d:Nat):Dz d 0:=⟨0,by rw[Int.mul_zero];rfl⟩
theorem Dz.add (d:Dz p a) (k:Dz p b):Dz p (a+b):=by
 obtain⟨g,rfl⟩:=d;obtain⟨h,rfl⟩:=k;exact⟨g+h,by rw[Int.mul_add,Rat.intCast_add]⟩
theorem Dz.mul (g:Dz p a) (k:Wz b):Dz p (a*b):=by
 obtain⟨h,rfl⟩:=g;obtain⟨d,rfl⟩:=k;exact⟨h*d,by rw[<- Int.mul_assoc,Rat.intCast_mul _ d]⟩
theorem Dz.mul' (d:Wz a) (k:Dz p b):Dz p (a*b):=by rw[Rat.mul_comm];exact k.mul d
theorem ev_dz:∀ {i:List Tm},(∀ d∈i,Dz p (d.2*f d.1))->Dz p (ev i f)
 | [],_=>Dz.zero p
 | d :: _,h=>(h d (List.mem_cons_self ..)).add (ev_dz λj g=>h j (List.mem_cons_of_mem _ g))
theorem ev_but {a:Tm}:∀ {k:List Tm},Canon k->a∈k->(∀ g∈k,g≠a->Dz p (g.2*f g.1))->∃ l,Dz p l/\ev k f=a.2*f a.1+l
 | [],_,h,_=>by cases h
 | g :: r,hc,ha,h=>by
  by_cases i:g=a
  ·subst i;refine⟨ev r f,ev_dz λm d=>h m (List.mem_cons_of_mem _ d) λe=>?_,rfl⟩;have:=hc.head m d;rw[e] at this;exact Mo.lt_irrefl _ this
  ·have j:a∈r:=by
    rcases List.mem_cons.1 ha with e | e
    ·exact absurd e.symm i
    ·exact e
   obtain⟨l,n,e⟩:=ev_but hc.tail j λm d=>h m (List.mem_cons_of_mem _ d)
   refine⟨g.2*f g.1+l,(h g (List.mem_cons_self ..) i).add n,?_⟩;rw[Jq,e];grind
theorem Ux {a:Tm}:∀ {k:List Tm},Canon k->a∈k->(∀ j∈k,j≠a->f j.1=0)->ev k f=a.2*f a.1
 | [],_,h,_=>by cases h
 | j :: r,hc,ha,h=>by
  by_cases g:j=a
  ·subst g
   have:ev r f=ev r (λ_=>0):=jak λl d=>h l (List.mem_cons_of_mem _ d) λe=>by
    have:=hc.head l d;rw[e] at this;exact Mo.lt_irrefl _ this
   rw[Jq,this,Uv,Rat.add_zero]
  ·have i:a∈r:=by
    rcases List.mem_cons.1 ha with e | e
    ·exact absurd e.symm g
    ·exact e
   rw[Jq,h j (List.mem_cons_self ..) g,Ux hc.tail i λl d=>h l (List.mem_cons_of_mem _ d)];grind
theorem Mo.mul_lt {a b d g:Mo} (h:d.lt a) (e:d.mul g=a.mul b):b.lt g:=by
 rw[Mo.eq_iff] at e;simp only[Mo.mul,Mo.lt] at *;omega
theorem Mo.mul_lt_mul {a b d g:Mo} (h:d=a\/d.lt a) (k:g=b\/g.lt b):d.mul g=a.mul b\/(d.mul g).lt (a.mul b):=by
 simp only[Mo.eq_iff] at *;simp only[Mo.mul,Mo.lt] at *;omega
theorem Canon.inj {d:List Tm} (k:Canon d) {i j:Tm} (g:i∈d) (h:j∈d) (e:i.1=j.1):i=j :=
 Prod.ext e (by rw[<- k.Qa g,<- k.Qa h,e])
theorem jh3 {N:Tm->Prop}:∀ {n:List Tm},Canon n->(∃ k∈n,N k)->∃ a∈n,N a/\∀ i∈n,N i->i=a\/i.1.lt a.1
 | [],_,h=>by obtain⟨k,s,_⟩:=h;cases s
 | k :: r,hc,h=>by
  by_cases j:N k
  ·refine⟨k,List.mem_cons_self ..,j,λi g _=>?_⟩
   rcases List.mem_cons.1 g with e | e
   ·exact Or.inl e
   ·exact Or.inr (hc.head i e)
  ·have o:∃ k∈r,N k:=by
    obtain⟨i,g,d⟩:=h
    rcases List.mem_cons.1 g with e | e
    ·rw[e] at d;exact absurd d j
    ·exact⟨i,e,d⟩
   obtain⟨a,q,l,g⟩:=jh3 hc.tail o;refine⟨a,List.mem_cons_of_mem _ q,l,λi m d=>?_⟩
   rcases List.mem_cons.1 m with e | e
   ·rw[e] at d;exact absurd d j
   ·exact g i e d
theorem jdf (d g:List Tm) (h:Mo):cf (mulL d g) h=ev d (λi=>ev g (λj=>at_ h (i.mul j))):=Uw d g _
theorem jfo {d:Tm} (g:d∈Ql P Q):d.2=cf (mulL P Q) d.1:=by
 have:=(Qh P Q).Qa g;rw[<- this];exact jbd _ _
theorem gauss_at (x:Canon P) (l:Canon Q) {i:Nat} (E:∀ j∈P,Wz j.2) (F:∀ j∈Q,Wz j.2) {a b:Tm} (y:a∈P) (m:b∈Q)
  (C:∀ d∈P,¬Dz i d.2->d=a\/d.1.lt a.1) (D:∀ d∈Q,¬Dz i d.2->d=b\/d.1.lt b.1):∃ u,Dz i u/\cf (mulL P Q) (a.1.mul b.1)=a.2*b.2+u:=by
 rw[jdf]
 have B:∀ v:Mo,Wz (ev Q (λt=>at_ (a.1.mul b.1) (v.mul t))):=λv=>ev_wz (λG=>at_wz _ _) F
 have w:ev Q (λt=>at_ (a.1.mul b.1) (a.1.mul t))=b.2:=by
  rw[Ux l m λj k h=>?_]
  ·unfold at_;rw[if_pos rfl,Rat.mul_one]
  ·unfold at_;rw[if_neg];intro e;exact h (l.inj k m (Mo.mul_left_cancel e))
 obtain⟨u,A,e⟩:=ev_but (p:=i) (f:=λv=>ev Q (λt=>at_ (a.1.mul b.1) (v.mul t))) x y λd s h=>by
  by_cases n:Dz i d.2
  ·exact n.mul (B _)
  ·have r:d.1.lt a.1:=(C d s n).resolve_left h;refine Dz.mul' (E d s) (ev_dz λj k=>?_);by_cases q:d.1.mul j.1=a.1.mul b.1
   ·have g:=Mo.mul_lt r q
    have o:Dz i j.2:=Classical.byContradiction λz=>by
     rcases D j k z with e | e
     ·rw[e] at g;exact Mo.lt_irrefl _ g
     ·exact Mo.lt_asymm g e
    exact o.mul (at_wz _ _)
   ·unfold at_;rw[if_neg q,Rat.mul_zero];exact Dz.zero i
 refine⟨u,A,?_⟩;rw[e,w]
theorem jgx (g:∀ d∈P,Wz d.2) (h:∀ d∈Q,Wz d.2) (i:Mo):Wz (cf (mulL P Q) i):=by
 rw[jdf];exact ev_wz (λj=>ev_wz (λk=>at_wz _ _) h) g
theorem head_mul {i g:Tm} (r:Canon (i :: P)) (s:Canon (g :: Q)):∃ B,Ql (i :: P) (g :: Q)=(i.1.mul g.1,i.2*g.2) :: B:=by
 have z:∀ k∈i :: P,k.1=i.1\/k.1.lt i.1:=λk d=>by
  rcases List.mem_cons.1 d with e | e
  ·rw[e];exact Or.inl rfl
  ·exact Or.inr (r.head k e)
 have A:∀ k∈g :: Q,k.1=g.1\/k.1.lt g.1:=λk d=>by
  rcases List.mem_cons.1 d with e | e
  ·rw[e];exact Or.inl rfl
  ·exact Or.inr (s.head k e)
 have x:cf (mulL (i :: P) (g :: Q)) (i.1.mul g.1)=i.2*g.2:=by
  rw[jdf,Ux r (List.mem_cons_self ..) λk d j=>?_,Ux s (List.mem_cons_self ..) λk d j=>?_]
  ·unfold at_;rw[if_pos rfl,Rat.mul_one]
  ·unfold at_;rw[if_neg];intro e;exact j (s.inj d (List.mem_cons_self ..) (Mo.mul_left_cancel e))
  ·have y:k.1.lt i.1:=by
    rcases z k d with e | e
    ·exact absurd (r.inj d (List.mem_cons_self ..) e) j
    ·exact e
   have:ev (g :: Q) (λC=>at_ (i.1.mul g.1) (k.1.mul C))=ev (g :: Q) (λ_=>0):=jak λv F=>by
    unfold at_;rw[if_neg];intro e;have:=Mo.mul_lt y e
    rcases A v F with e | e
    ·rw[e] at this;exact Mo.lt_irrefl _ this
    ·exact Mo.lt_asymm this e
   rw[this,Uv]
 have j:i.2*g.2≠0:=λe=>by
  rcases Rat.mul_eq_zero.1 e with e | e
  ·exact r.non i (List.mem_cons_self ..) e
  ·exact s.non g (List.mem_cons_self ..) e
 have q:cf (Ql (i :: P) (g :: Q)) (i.1.mul g.1)=i.2*g.2:=by
  unfold Ql;rw[jbd,x]
 obtain⟨c,o⟩:=Canon.Yj (l:=Ql (i :: P) (g :: Q)) (m:=i.1.mul g.1) (by rw[q];exact j);have h:=Qh (i :: P) (g :: Q);have w:c=i.2*g.2:=(h.Qa o).symm.trans q;subst w
 match hM:Ql (i :: P) (g :: Q) with
 | []=>rw[hM] at o;cases o
 | v :: B =>
  rw[hM] at o h;refine⟨B,?_⟩
  rcases List.mem_cons.1 o with e | e
  ·rw[e]
  ·exfalso;have t:=h.head _ e
   have D:cf (mulL (i :: P) (g :: Q)) v.1≠0:=by
    rw[<- jbd];have u:cf (v :: B) v.1=v.2:=h.Zv;rw[<- hM] at u;unfold Ql at u;rw[u];exact h.non v (List.mem_cons_self ..)
   apply D
   refine XH λk d E=>?_
   obtain⟨I,G,d⟩:=List.mem_flatMap.1 d;obtain⟨C,H,rfl⟩:=List.mem_map.1 d;have n:=Mo.mul_lt_mul (z I G) (A C H);rw[show I.1.mul C.1=v.1 from E] at n
   rcases n with n | n
   ·rw[n] at t;exact Mo.lt_irrefl _ t
   ·exact Mo.lt_asymm t n
theorem Prm.mul (k:Canon P) (l:Canon Q) (d:Prm P) (g:Prm Q):Prm (Ql P Q):=by
 refine⟨λi m=>?_,λp u=>?_,λi r e=>?_⟩
 ·rw[jfo m];exact jgx d.whole g.whole _
 ·have L:∃ i∈P,¬Dz p i.2:=by
   obtain⟨i,m,t⟩:=d.alone p u;exact⟨i,m,λ⟨z,o⟩=>t _ o ⟨z,rfl⟩⟩
  have M:∃ i∈Q,¬Dz p i.2:=by
   obtain⟨i,m,t⟩:=g.alone p u;exact⟨i,m,λ⟨z,o⟩=>t _ o ⟨z,rfl⟩⟩
  obtain⟨a,w,J,H⟩:=jh3 (N:=λi=>¬Dz p i.2) k L;obtain⟨b,x,K,I⟩:=jh3 (N:=λi=>¬Dz p i.2) l M;obtain⟨V,F,e⟩:=gauss_at k l d.whole g.whole w x H I;obtain⟨R,A⟩:=d.whole a w;obtain⟨C,B⟩:=g.whole b x
  have n:¬Dz p (cf (mulL P Q) (a.1.mul b.1)):=λq=>by
   rw[e,A,B] at q;obtain⟨O,y⟩:=q;obtain⟨v,G⟩:=F;rw[G,<- Rat.intCast_mul,<- Rat.intCast_add] at y;have T:=cast_inj y;have D:(p:Int) ∣ R*C:=⟨O-v,by rw[Int.mul_sub];omega⟩
   rcases u.2 R C D with ⟨c,h⟩ | ⟨c,h⟩
   ·exact J ⟨c,by rw[A,h]⟩
   ·exact K ⟨c,by rw[B,h]⟩
  have j:cf (Ql P Q) (a.1.mul b.1)≠0:=λj=>by
   unfold Ql at j;rw[jbd] at j;rw[j] at n;exact n (Dz.zero p)
  obtain⟨c,h⟩:=Canon.Yj j;refine⟨_,h,λz o q=>n ?_⟩;have E:=jfo h;rw[<- E];obtain⟨C,rfl⟩:=q;exact⟨C,o⟩
 ·match P,Q,k,l,d,g,e with
  | [],_,_,_,d,_,_=>exact absurd rfl d.some
  | _ :: _,[],_,_,_,g,_=>exact absurd rfl g.some
  | s :: P,O :: Q,k,l,d,g,e =>
   obtain⟨U,S⟩:=head_mul k l;rw[S] at e;have:=(List.cons.inj e).1;rw[<- this];exact Rat.mul_pos (d.first s P rfl) (g.first O Q rfl)
theorem YH (d:c≠0) (i:Canon P):Canon (JZ c P):=by
 refine⟨?_,λk h=>?_⟩
 ·unfold JZ;rw[List.pairwise_map];exact i.falls
 ·obtain⟨j,g,rfl⟩:=List.mem_map.1 h;intro e
  rcases Rat.mul_eq_zero.1 e with e | e
  ·exact i.non j g e
  ·exact d e
theorem scaleP_L (d:c≠0) (g:Canon P):Qt c P=JZ c P:=jit (YH d g)
theorem jgy (d g:Rat) (i:List Tm):JZ d (JZ g i)=JZ (g*d) i:=by
 unfold JZ;rw[List.map_map]
 refine List.map_congr_left λh _=>?_
 show(h.1,h.2*g*d)=(h.1,h.2*(g*d));rw[Rat.mul_assoc]
theorem jgz (d:List Tm):JZ 1 d=d:=by
 unfold JZ
 conv=>rhs;rw[<- List.map_id d]
 exact List.map_congr_left λg _=>by
  show(g.1,g.2*1)=g;rw[Rat.mul_one]
theorem IsC.canon (d:c≠0) (g:Canon P) (e:P=JZ c Q):Canon Q:=by
 have:Q=JZ c⁻¹ P:=by
  rw[e,jgy,show c*c⁻¹=1 from Rat.mul_inv_cancel _ d,jgz]
 rw[this];exact YH (λh=>(by have:=Rat.mul_inv_cancel c d;rw[h,Rat.mul_zero] at this;exact absurd this.symm Ze)) g
theorem IsC.mul {h:Rat} (o:Canon P) (q:Canon Q) (t:IsC P c) (k:IsC Q h):IsC (Ql P Q) (c*h):=by
 obtain⟨c0,j,r,e⟩:=t;obtain⟨i,g,s,k⟩:=k;have l:=IsC.canon c0 o e;have m:=IsC.canon i q k
 have d:c*h≠0:=λn=>(Rat.mul_eq_zero.1 n).elim c0 i
 refine⟨d,Ql j g,Prm.mul l m r s,?_⟩;rw[<- scaleP_L d (Qh _ _)]
 refine Qc (Qh _ _) (QY _ _) λf=>?_
 rw[Yk,ZM,Yk,e,k,KJ]
 have:(λa:Mo=>ev (JZ h g) (λb=>f (a.mul b)))=λa=>h*ev g (λb=>f (a.mul b)):=funext λa=>KJ _ _ _
 rw[this,jdd];grind
end Pol
namespace Pol
end Pol
namespace Pol
end Pol
namespace Limb
open Go.RowKit Go.Sort
variable {o:Nat->Int}
theorem QQ:(prog.info? 128).map (λd=>(d.zero,d.size,d.bytes))=some (some (.int .u32 0),1,4):=by kernel_rfl
def ucs (o:Nat->Int) (n:Nat):List Value:=(List.range n).map (uc o)
theorem Qm (o:Nat->Int) (n:Nat):(ucs o n).length=n:=by simp[ucs]
theorem Yl (o:Nat->Int) (n d:Nat) (g:d<n):(ucs o n)[d]?=some (uc o d):=by simp[ucs,g]
theorem ZT {n g:Nat} {j:Value} (i:(ucs o n)[g]?=some j):g<n/\j=uc o g:=by
 have h:g<n:=by
  rcases Nat.lt_or_ge g n with d | d
  ·exact d
  ·rw[List.getElem?_eq_none (by rw[Qm];exact d)] at i;cases i
 rw[Yl o n g h] at i;exact⟨h,by cases i;rfl⟩
theorem Q0 (o:Nat->Int) (n:Nat):ucs o (n+1)=ucs o n++[uc o n]:=by simp[ucs,List.range_succ]
theorem jdg {n:Nat}:∀ g∈ucs o n,g.oneCell'=true:=by
 intro g d;obtain⟨h,_,rfl⟩:=List.mem_map.1 d;rfl
theorem Own.Zn {t:World} {base:Nat} {v:Value} {n:Nat} (l:t.ownsRow base 128 1 v n (ucs o n)) (j:∀ k,k<n->0<=o k/\o k<=4294967295) :
  ∃ a d,v=.slice a n d/\Own 128 t base a n d o/\(a=none->d=0):=by
 rcases l.2 with ⟨rfl,rfl⟩ | ⟨u,d,g,rfl,m,hg,i,_,s,r⟩
 ·exact⟨none,0,rfl,⟨zj,Or.inl ⟨rfl,rfl,rfl⟩,j⟩,λ_=>rfl⟩
 ·refine⟨_,d,rfl,⟨i,Or.inr ⟨u,g,rfl,m,hg,Zo,λk q=>?_⟩,j⟩,λl=>by cases l⟩;have h:=Yl o n k q;rw[<- r,List.getElem?_take,if_pos Zo,Array.getElem?_toList] at h;exact h
theorem Own.Ke (d:World) (base:Nat) (o:Nat->Int):d.ownsRow base 128 1 (.slice none 0 0) 0 (ucs o 0):=⟨rfl,Or.inl ⟨rfl,rfl⟩⟩
theorem q22 (h:World) (a:Option Addr) (n i g d:Nat):(binOp .eql 28 (.slice a n i) (.slice none g d)).run prog h=.ok (.bool a.isNone) h:=Lib.run_eql_slice_nil h _ _ a n i g d underlying28
theorem XR (a:Option Addr) (n l:Nat) (o:Nat->Int) (j:World) (z:Rd j a n o) (M:n<=1000000000) :
  Cl 227 #[.slice a n l] j λe y=>∃ i d,e=.returned (.slice i n d)/\Own 128 y j.heap.size i n d o/\(i=none->d=0)/\Bl j y:=by
 have R:=q22
 cases a with
 | none =>
  obtain rfl:n=0:=by
   rcases Nat.eq_zero_or_pos n with m | m
   ·exact m
   ·obtain⟨b,off,e,_⟩:=z.cells m;cases e
  clear z;go_enter func227,ntmps227;go_wp2;go_ret
  exact⟨none,0,rfl,⟨zj,Or.inl ⟨rfl,rfl,rfl⟩,λO t=>Zo⟩,λ_=>rfl,zk⟩
 | some p =>
  obtain⟨b,off,H⟩:=p;obtain⟨F,t,v,w,x⟩:=info_parts QQ;have K:∀ j,Sem.run prog (underlying 28) j=.ok (TypeDesc.slice 128) j:=run_underlying underlying28;have r:=qh z;clear z;go_enter func227,ntmps227;go_wp2_with (at_builtin;refine wpList_append_own _ rfl _ _ 28 rfl j.heap.size 128 F (.int .u32 0) 1 4 underlying28 t v w x rfl Ze _ _ _ rfl (World.ownsRow_made j #[] 0 zj (Nat.zero_le _) rfl) ⟨b,off,H⟩ n l (ucs o n) rfl ?qc1 ?qc2 ?qc3 ?qc4 ?qc5 ?qc6 ?_)
  case qc1=>rw[Qm];omega
  case qc2 =>
   intro N S D;obtain⟨u,rfl⟩:=ZT D;obtain⟨L,G,e,C⟩:=r.o.cells Zo
   cases e
   rw[Addr.add_lit];exact Lib.cell?_alloc_some _ (C N u)
  case qc3=>exact jdg
  case qc4=>unfold maxLen;omega
  case qc5=>omega
  case qc6=>simp
  intro I J g h q
  have g:J.ownsRow j.heap.size 128 1 I n (ucs o n):=by simpa using g
  obtain⟨i,d,rfl,B,A⟩:=Own.Zn g r.o.rng;have s:=((Below.refl _ j).alloc zj _).grown h (by simp) (by intro k E;simp[Value.ownBlock] at E;omega);clear g h q;go_wp2;go_ret;exact⟨i,d,rfl,B,A,s⟩
theorem Own.Xa {k:World} {d base n:Nat} (l:k.rowIs d 128 n (uc o)) (g:base<=d) (i:∀ j,j<n->0<=o j/\o j<=4294967295):Own 128 k base (some ⟨d,0,none⟩) n n o:=by
 obtain⟨c,hg,m,h⟩:=l;exact⟨zj,Or.inr ⟨d,c,rfl,g,hg,Zo,h⟩,i⟩
def upto (o:Nat->Int) (k i:Nat):Value:=if i<k then uc o i else .int .u32 0
theorem row_step {i:World} {g n k:Nat} (j:i.rowIs g 128 n (upto o k)):(i.setCell ⟨g,k,none⟩ (uc o k)).rowIs g 128 n (upto o (k+1)) :=
 (j.set k (uc o k)).congr λh l=>by
  unfold upto;by_cases e:h=k
  ·subst e;rw[if_pos rfl,if_pos Zo]
  ·rw[if_neg e];by_cases d:h<k
   ·rw[if_pos d,if_pos Zo]
   ·rw[if_neg d,if_neg Zo]
theorem jg0 (d:Int):∃ Q h:Int,d.tdiv 1000000000=Q/\d.tmod 1000000000=h/\d=1000000000*Q+h/\((0<=d/\0<=h/\h<1000000000)\/(d<0/\-1000000000<h/\h<=0)):=by
 rcases Int.lt_or_le d 0 with g | g
 ·obtain⟨i,rfl⟩:∃ i,d = -i:=⟨-d,Zo⟩;refine⟨_,_,rfl,rfl,?_,Or.inr ⟨g,?_,?_⟩⟩
  ·rw[Int.neg_tdiv,Int.neg_tmod,Int.tdiv_eq_ediv_of_nonneg Zo,Int.tmod_eq_emod_of_nonneg Zo];omega
  ·rw[Int.neg_tmod,Int.tmod_eq_emod_of_nonneg Zo];omega
  ·rw[Int.neg_tmod,Int.tmod_eq_emod_of_nonneg Zo];omega
 ·refine⟨_,_,rfl,rfl,?_,Or.inl ⟨g,?_,?_⟩⟩
  ·rw[Int.tdiv_eq_ediv_of_nonneg g,Int.tmod_eq_emod_of_nonneg g];omega
  ·rw[Int.tmod_eq_emod_of_nonneg g];omega
  ·rw[Int.tmod_eq_emod_of_nonneg g];omega
theorem jg1 (f:Nat->Int) (k:Nat):∃ Q d:Int,(f k+cS f k).tdiv 1000000000=Q/\(f k+cS f k).tmod 1000000000=d/\-1000000000<d/\d<1000000000 /\
  (d<0->cS f (k+1)=Q-1/\cD f k=d+1000000000)/\(0<=d->cS f (k+1)=Q/\cD f k=d):=by
 obtain⟨Q,d,g,h,j,l⟩:=jg0 (f k+cS f k);refine⟨Q,d,g,h,Zo,Zo,λi=>?_,λi=>?_⟩
 ·unfold cD;rw[cS];omega
 ·unfold cD;rw[cS];omega
theorem KZ (R:Nat) (L:Array Value) (n:Nat) (f:Nat->Int) (D d:Int) (h:World) (hn:n<=1000000000)
  (Y:∀ (j:Array Value) (h:World),(callFunc R j).run prog h=.ok (.enter R j) h)
  (hF:∀ k,k<n->∀ E,Bl h E->Cl R (#[.int .i64 k]++L) E λe t=>e=.returned (.int .i64 (f k))/\Bl E t)
  (O:∀ k,k<n->D*999999999<=f k/\f k<=d*999999999) (hl:-2000000000<=D) (w:D<=0) (hh:d<=2000000000) (u:0<=d) :
  Cl 207 #[.int .i64 n,.func (.func R) #[] L] h λe t=>e=.returned (.slice (some ⟨h.heap.size,0,none⟩) n n)/\Own 128 t h.heap.size (some ⟨h.heap.size,0,none⟩) n n (cD f)/\Bl h t:=by
 have S:=qh hF;clear hF;have A:=qh O;clear O;have x:=run_make_row' (P:=prog) 28 128 (.int .u32 0) 4 underlying28 QQ rfl .i64 .i64 n Zo Zo;go_enter func207,ntmps207;go_wp2;go_loopw [6,13] (λV r wr=>∃ k:Nat,k<=n/\V=.int .i64 (cS f k)/\r=.int .i64 k/\wr.rowIs h.heap.size 128 n (upto (cD f) k)/\Bl h wr) (λ_ r _=>n-(intOf r).toNat)
 case atStart=>exact⟨0,Zo,rfl,rfl,(World.rowIs_made h (.int .u32 0) n 128).congr (λr _=>by unfold upto;rw[if_neg Zo]),qg⟩
 case round =>
  obtain⟨k,hk,rfl,rfl,X,N⟩:=hrel;have s:=qh X;have i:=qh N;clear X N;by_cases q:k<n
  ·obtain⟨Q,G,e1,e2,h3,h4,B,C⟩:=jg1 f k;have I:=A.o k q
   have J:=cS_bd w u (n:=k) λr d=>A.o r Zo
   have K:=cS_bd w u (n:=k+1) λr d=>A.o r Zo
   have F:=S.o k q wr i.o;clear x;go_wp2_with fail
   refine F.mono ?_;rintro e W ⟨rfl,m⟩;have R2:=qh<|s.o.of_block (m.block _ s.o.lt);have H:=qh<|i.o.trans (m.mono i.o.size);obtain⟨vo,Z⟩:∃ v,W.cell? ⟨h.heap.size,k,none⟩=some v:=⟨_,R2.o.cell q⟩;have aa:=R2.o.frozen k;have ea:=IntWalk.i64_in (f k+cS f k) Zo;clear m F s i;by_cases U:G<0
   ·obtain⟨g,l⟩:=B U;rw[g] at K;have y:=qh g;have z:=qh l;have T:=IntWalk.u32_in (G+1000000000) Zo;clear B C g l I J;go_wp2;go_roundw
    case rel=>exact⟨k+1,Zo,by rw[y.o],by go_num,by have M:=row_step R2.o;rw[show uc (cD f) k=.int .u32 (G+1000000000) by show Value.int .u32 (cD f k)=_;rw[z.o]] at M;exact M,by have:=H.o;exact qg⟩
    case measure=>simp[intOf];omega
   ·obtain⟨g,l⟩:=C Zo;rw[g] at K;have y:=qh g;have z:=qh l;have T:=IntWalk.u32_in G Zo;clear B C g l I J;go_wp2;go_roundw
    case rel=>exact⟨k+1,Zo,by rw[y.o],by go_num,by have M:=row_step R2.o;rw[show uc (cD f) k=.int .u32 G by show Value.int .u32 (cD f k)=_;rw[z.o]] at M;exact M,by have:=H.o;exact qg⟩
    case measure=>simp[intOf];omega
  ·obtain rfl:k=n:=Zo;clear x;go_wp2;go_ret;exact⟨rfl,Own.Xa (s.o.congr λr d=>by unfold upto;rw[if_pos d]) zj (λr d=>by have:=QM f k r d;omega),i.o⟩
end Limb
namespace Mono
variable {a b:Nat->Int}
theorem Uy (d:Yh a b=false):Z6 a b=Qy:=by funext k;simp[Z6,d,Qy]
theorem XI (d:Yg a b=true) (k:Nat):mulM a b k=a k+b k:=by simp[mulM,d]
theorem XJ (d:Yh a b=true) (k:Nat):Z6 a b k=a k-b k:=by simp[Z6,d]
theorem degM_mul (d:Yg a b=true):JF (mulM a b)=JF a+JF b:=by
 unfold JF;rw[XI d,XI d,XI d,XI d];omega
end Mono
namespace Mono
variable {a b:Nat->Int} {o x y:Int}
theorem JK (d:x<y):Js x y = -1:=by unfold Js;rw[if_pos d]
theorem JS (d:y<x):Js x y=1:=by unfold Js;rw[if_neg Zo,if_pos d]
theorem J7 (d:x=y):Js x y=0:=by unfold Js;rw[if_neg Zo,if_neg Zo]
theorem Qg {i v:Int} (g:x<y↔i<v) (h:y<x↔v<i):Js x y=Js i v:=by
 rcases Int.lt_trichotomy x y with d | d | d
 ·rw[JK d,JK (g.1 d)]
 ·rw[J7 d,J7 (by have j:=mt g.2 Zo;have k:=mt h.2 Zo;omega)]
 ·rw[JS d,JS (h.1 d)]
def key (a:Nat->Int):Int:=a 0*281474976710656+a 1*4294967296+a 2*65536+a 3
def jby (a:Nat->Int):Int:=a 3*281474976710656+a 2*4294967296+a 1*65536+a 0
def KO (o:Int) (a:Nat->Int):Int:=if o=1 then JF a*18446744073709551616+key a else if o=2 then JF a*18446744073709551616-jby a else key a
structure Bds (a:Nat->Int):Prop where
 b0:0<=a 0/\a 0<=65535
 b1:0<=a 1/\a 1<=65535
 b2:0<=a 2/\a 2<=65535
 b3:0<=a 3/\a 3<=65535
theorem bds (d:Small a):Bds a:=⟨d 0 Zo,d 1 Zo,d 2 Zo,d 3 Zo⟩
theorem V5 (d:Small a):0<=key a/\key a<18446744073709551616:=by
 obtain⟨g,h,i,j⟩:=bds d;unfold key;omega
theorem Ym (d:Small a):0<=jby a/\jby a<18446744073709551616:=by
 obtain⟨g,h,i,j⟩:=bds d;unfold jby;omega
theorem jdh (m:Small a) (n:Small b):Xn a b=Js (key a) (key b):=by
 obtain⟨k,i⟩:=ZP a b;rw[ZQ i];obtain⟨l,d,r⟩:=i;obtain⟨s,t,u,v⟩:=bds m;obtain⟨q0,w,z,A⟩:=bds n
 match k,l with
 | 0,_=>rw[if_pos Zo];exact Qg (by unfold key;omega) (by unfold key;omega)
 | 1,_=>rw[if_pos Zo];have g:=d 0 Zo;exact Qg (by unfold key;omega) (by unfold key;omega)
 | 2,_=>rw[if_pos Zo];have g:=d 0 Zo;have h:=d 1 Zo;exact Qg (by unfold key;omega) (by unfold key;omega)
 | 3,_=>rw[if_pos Zo];have g:=d 0 Zo;have h:=d 1 Zo;have j:=d 2 Zo;exact Qg (by unfold key;omega) (by unfold key;omega)
 | 4,_=>rw[if_neg Zo];have g:=d 0 Zo;have h:=d 1 Zo;have j:=d 2 Zo;have q:=d 3 Zo;exact(J7 (by unfold key;omega)).symm
theorem jbz (d:Small a):Small (XF a):=λk g=>d (3-k) Zo
theorem jiu (a:Nat->Int):key (XF a)=jby a:=rfl
theorem jiv (h:Small a) (i:Small b):XN o a b=Js (KO o a) (KO o b):=by
 have r:=V5 h;have s:=V5 i;have t:=Ym h;have u:=Ym i;by_cases j:(o=1\/o=2)/\¬JF a=JF b
 ·rw[jal j.1 j.2,Xj];obtain⟨m,n⟩:=j;unfold KO
  rcases m with rfl | rfl
  ·rw[if_pos rfl,if_pos rfl];exact Qg Zo Zo
  ·rw[if_neg Zo,if_pos rfl,if_neg Zo,if_pos rfl];exact Qg Zo Zo
 ·have k:(o=1\/o=2)->JF a=JF b:=λq=>Decidable.byContradiction λl=>j ⟨q,l⟩
  rw[KQ k];unfold tailM KO;by_cases d:o=1
  ·have e:=k (Or.inl d);rw[if_neg (show ¬o=2 by omega),if_pos d,if_pos d,jdh h i];exact Qg Zo Zo
  ·by_cases g:o=2
   ·have e:=k (Or.inr g);rw[if_pos g,if_neg d,if_neg d,if_pos g,if_pos g,jdh (jbz i) (jbz h),jiu,jiu];exact Qg Zo Zo
   ·rw[if_neg g,if_neg d,if_neg d,if_neg g,if_neg g,jdh h i]
theorem jfp (o:Int) (h:(Nat->Int)->(Nat->Int)->Int->Int->Prop) (a b:Nat->Int)
  (i:h a b (JF a*18446744073709551616+key a) (JF b*18446744073709551616+key b)) (j:h a b (JF a*18446744073709551616-jby a) (JF b*18446744073709551616-jby b)) (k:h a b (key a) (key b)):h a b (KO o a) (KO o b):=by
 unfold KO;by_cases d:o=1
 ·rw[if_pos d,if_pos d];exact i
 ·rw[if_neg d,if_neg d];by_cases g:o=2
  ·rw[if_pos g,if_pos g];exact j
  ·rw[if_neg g,if_neg g];exact k
theorem key_inj (d:Small a) (g:Small b) (h:key a=key b):∀ k,k<4->a k=b k:=by
 obtain⟨i,j,l,m⟩:=bds d;obtain⟨q0,n,q,r⟩:=bds g;rw[all4 λk=>a k=b k];unfold key at h;omega
theorem rkey_inj (d:Small a) (g:Small b) (h:jby a=jby b):∀ k,k<4->a k=b k:=by
 obtain⟨i,j,l,m⟩:=bds d;obtain⟨q0,n,q,r⟩:=bds g;rw[all4 λk=>a k=b k];unfold jby at h;omega
theorem KO_same (d:Small a) (g:Small b):KO o a=KO o b↔∀ k,k<4->a k=b k:=by
 have n:=V5 d;have q:=V5 g;have r:=Ym d;have s:=Ym g;constructor
 ·refine jfp o (λa b x y=>x=y->∀ k,k<4->a k=b k) a b ?_ ?_ ?_
  ·intro m;exact key_inj d g Zo
  ·intro m;exact rkey_inj d g Zo
  ·intro m;exact key_inj d g m
 ·intro m;have m:=(all4 λk=>a k=b k).1 m;obtain⟨h,i,j,l⟩:=m;refine jfp o (λ_ _ x y=>x=y) a b ?_ ?_ ?_
  ·simp only[JF,key,h,i,j,l]
  ·simp only[JF,jby,h,i,j,l]
  ·simp only[key,h,i,j,l]
theorem KO_mul {i:Nat->Int} (h:Yg a i=true):KO o (mulM a i)=KO o a+KO o i:=by
 have e:=degM_mul h;have j:=XI h 0;have k:=XI h 1;have l:=XI h 2;have m:=XI h 3;unfold KO;by_cases d:o=1
 ·rw[if_pos d,if_pos d,if_pos d];simp only[key];omega
 ·by_cases g:o=2
  ·rw[if_neg d,if_pos g,if_neg d,if_pos g,if_neg d,if_pos g];simp only[jby];omega
  ·rw[if_neg d,if_neg g,if_neg d,if_neg g,if_neg d,if_neg g];simp only[key];omega
end Mono
namespace Limb
open Go.RowKit Go.Sort Go.FreshH
variable {w:World} {L T b base cap g n:Nat} {o:Nat->Int} {a:Option Addr}
theorem cf_add (d:Array Value) (h:World):(callFunc 208 d).run prog h=.ok (.enter 208 d) h:=by kernel_rfl
theorem add_plain (d h l:Int) (q:h.natAbs<=d.natAbs) (k:l=if decide (d<0)=decide (h<0) then 1 else -1) :
  0<=(d.natAbs:Int)+l*(h.natAbs:Int)/\((d.natAbs:Int)+l*(h.natAbs:Int)).toNat=(d+h).natAbs /\
  (decide (d<0)&&decide (0<Ja (d+h).natAbs))=decide (d+h<0):=by
 have m:0<Ja (d+h).natAbs↔d+h≠0:=by
  constructor
  ·intro j i;rw[i,show Int.natAbs 0=0 from rfl,Jw] at j;omega
  ·intro j
   rcases Nat.eq_zero_or_pos (Ja (d+h).natAbs) with i | i
   ·have:=QI.1 i;omega
   ·exact i
 by_cases j:d<0 <;> by_cases i:h<0 <;> simp only[j,i,decide_true,decide_false,if_true,reduceCtorEq,if_false] at k <;> subst k <;>
  refine⟨Zo,Zo,?_⟩ <;> simp only[j,decide_true,decide_false,Bool.true_and,Bool.false_and]
 ·exact decide_eq_decide.2 (m.trans Zo)
 ·exact decide_eq_decide.2 (m.trans Zo)
 ·exact(zo Zo).symm
 ·exact(zo Zo).symm
def addF (x nx y ny:Nat) (sg:Int) (i:Nat):Int:=part (dgi x) nx i+sg*part (dgi y) ny i
theorem YW (h n d:Nat):0<=part (dgi h) n d/\part (dgi h) n d<=999999999:=by
 unfold part;split
 ·have:=Jr h (d+1) d Zo;omega
 ·omega
theorem addF_bd (l h m i:Nat) (d:Int) (j:d=1\/d = -1) (k:Nat):-1*999999999<=addF l h m i d k/\addF l h m i d k<=2*999999999:=by
 have q:=YW l h k;have r:=YW m i k;unfold addF
 rcases j with rfl | rfl <;> omega
theorem addF_sum (h i:Nat) (d:Int) (k:Ja i<=Ja h+1):Jj (addF h (Ja h) i (Ja i) d) (Ja h+1)=h+d*i:=by
 have e:addF h (Ja h) i (Ja i) d=λj=>part (dgi h) (Ja h) j+part (dgi i) (Ja i) j*d:=by funext j;unfold addF;rw[Int.mul_comm]
 rw[e,ZI,XW,Q4 _ Zo,Q4 _ k,Jz,Jz,Int.mul_comm]
theorem add_lt (i j:Nat) (d:Int) (h:d=1\/d = -1) (l:j<=i):(i:Int)+d*j<(pw (Ja i+1):Int):=by
 have k:=JE i;rw[JR]
 rcases h with rfl | rfl <;> omega
theorem Yn {m:Program} {f:FuncId} {d:Array Value} {i:World} {n:Nat} {v:Value}
  (q:Calls m f d (i.drewN n) λe l=>e=.returned v/\l=i.drewN n):Calls m f d (i.drewN n) λe h=>e=.returned v/\∃ r,h=i.drewN r :=
 q.mono λ_ _ ⟨j,k⟩=>⟨j,n,k⟩
theorem addFn (l:World) (z A B:Nat) (K M:Value) (O:TypeId) (I J:Option Addr) (f m:Nat->Int) (h d R e:Nat) (i:Int) (k:Nat)
  (s:Bx l z O K (.slice I h R)) (t:Bx l A O M (.slice J d e)) (V:l.cell? ⟨B,0,none⟩=some (.int .i64 i)) (D:Rd l I h f) (E:Rd l J d m)
  (G:h<=1000000000) (H:d<=1000000000) (C:k<=1000000000) (q:i=1\/i = -1) (W:0<=part f h k/\part f h k<=999999999) (X:0<=part m d k/\part m d k<=999999999) :
  Cl 208 #[.int .i64 k,.pointer (some ⟨z,0,none⟩),.pointer (some ⟨B,0,none⟩),.pointer (some ⟨A,0,none⟩)] l λe N=>e=.returned (.int .i64 (part f h k+i*part m d k))/\Bl l N:=by
 have P:=qh (λ(j:World) (F:∃ r,j=l.drewN r)=>YU I h R f k j (by obtain⟨r,rfl⟩:=F;exact D.drewN r) G C);have Q:=qh (λ(j:World) (F:∃ r,j=l.drewN r)=>YU J d e m k j (by obtain⟨r,rfl⟩:=F;exact E.drewN r) H C);have S:=IntWalk.i64_in (i*part m d k) (by rcases q with rfl | rfl <;> omega);have U:=IntWalk.i64_in (part f h k+i*part m d k) (by rcases q with rfl | rfl <;> omega)
 generalize part f h k=u at *
 generalize part m d k=v at *
 have c1:=s.c1;have c2:=t.c1;clear s t D E;go_enter func208,ntmps208;go_wp2;go_quiet (first | with_reducible exact Yn (P.o _ ⟨_,rfl⟩) | with_reducible exact Yn (Q.o _ ⟨_,rfl⟩));go_wp2;go_ret;exact⟨rfl,QC zk _⟩
theorem Own.cut {k:Nat->Int} (m:Own T w base a n cap o) (v:L<=n) (e:∀ d,d<L->o d=k d):Own T w base a L L k:=by
 refine⟨zj,?_,λd h=>by rw[<- e d h];exact m.rng d Zo⟩
 rcases m.place with ⟨l,t,u⟩ | ⟨g,i,q,j,hg,s,r⟩
 ·exact Or.inl ⟨l,Zo,Zo⟩
 ·exact Or.inr ⟨g,i,q,j,hg,by have:=m.le;omega,λd h=>by rw[r d Zo];show some (Value.int .u32 (o d))=_;rw[e d h]⟩
theorem Own.other (j:Own T w base a n cap o) {p:Addr} (q:p.block<base) (v:Value):Own T (w.setCell p v) base a n cap o:=by
 refine⟨j.le,?_,j.rng⟩
 rcases j.place with k | ⟨g,h,l,i,hg,d,m⟩
 ·exact Or.inl k
 ·exact Or.inr ⟨g,h,l,i,(Below.heap_setCell _ _ _ _ Zo).trans hg,d,m⟩
theorem Own.oz (i:Own T w base a n cap o) {h:Addr} {v:Value} (d:h.block<base:=by dsimp only;omega):Own T (w.setCell h v) base a n cap o:=i.other d v
theorem own_of {N:Nat} (d:∃ x:Nat,Value.slice (some ⟨g,0,none⟩) N N=.slice (some ⟨x,0,none⟩) N N/\Own T w b (some ⟨x,0,none⟩) N N o):Own T w b (some ⟨g,0,none⟩) N N o:=by
 obtain⟨x,e,d⟩:=d
 cases e
 exact d
theorem jdi {s:Bool} {p:Option Addr->Prop} (d:∃ x:Option Addr,Jv s a L L=Jv s x L L/\Own T w b x L L o/\p x):Own T w b a L L o/\p a:=by
 obtain⟨x,e,d⟩:=d
 cases e
 exact d
theorem Y8 (B:Bool) (X:Option Addr) (u c1:Nat) (G:Nat->Int) (C:Bool) (Y:Option Addr) (v c2:Nat) (H:Nat->Int) (A:World)
  (h1:Rd A X u G) (aX:u<=100000000) (aK:u<=c1) (h2:Rd A Y v H) (aY:v<=100000000) (aL:v<=c2) :
  Cl 170 #[Jv B X u c1,Jv C Y v c2] A λe d=>∃ a,e=.returned (Jv (decide (Jp B u G+Jp C v H<0)) a (Ja (Jp B u G+Jp C v H).natAbs) (Ja (Jp B u G+Jp C v H).natAbs)) /\
   Own 128 d A.heap.size a (Ja (Jp B u G+Jp C v H).natAbs) (Ja (Jp B u G+Jp C v H).natAbs) (dgi (Jp B u G+Jp C v H).natAbs)/\(a=none->Ja (Jp B u G+Jp C v H).natAbs=0)/\Bl A d:=by
 obtain⟨x1,d1,r1,l1,m1,O1⟩:=XM B X u c1 G A h1 Zo aK;obtain⟨x2,d2,r2,l2,m2,O2⟩:=XM C Y v c2 H A h2 Zo aL
 generalize Jp B u G=z1 at r1 l1 m1 O1 ⊢
 have ay:=qh O1;clear O1
 generalize Jp C v H=z2 at r2 l2 m2 O2 ⊢
 have az:=qh O2;clear O2;have q:=(((Bx.new A 30 (.bool B) (.slice X u c1)).alloc (.cells #[.bool C,.slice Y v c2] 30)).alloc (.cells #[.bool false,.slice none 0 0] 30));have r:=((Bx.Zu A (.cells #[.bool B,.slice X u c1] 30) 30 (.bool C) (.slice Y v c2)).alloc (.cells #[.bool false,.slice none 0 0] 30));have z:=(Bx.new3 A (.cells #[.bool B,.slice X u c1] 30) (.cells #[.bool C,.slice Y v c2] 30) 30 (.bool false) (.slice none 0 0));go_enter func170,ntmps170
 go_upto_region 1 with (fail)
 obtain⟨aO,hW⟩:=gn (((A.alloc (.cells #[.bool B,.slice X u c1] 30)).alloc (.cells #[.bool C,.slice Y v c2] 30)).alloc (.cells #[.bool false,.slice none 0 0] 30));have t:=qh ((zk.alloc (by go_size) _ |>.alloc (by go_size) _ |>.alloc (by go_size) _):Bl A (((A.alloc (.cells #[.bool B,.slice X u c1] 30)).alloc (.cells #[.bool C,.slice Y v c2] 30)).alloc (.cells #[.bool false,.slice none 0 0] 30)));rw[<- hW] at q r z t;rw[<- hW];clear hW
 go_cut [] (λD=>Bx D A.heap.size 30 (.bool (decide (z1<0))) (.slice x1 (Ja z1.natAbs) d1)/\Bx D (A.heap.size+1) 30 (.bool (decide (z2<0))) (.slice x2 (Ja z2.natAbs) d2) /\
  Bx D (A.heap.size+1+1) 30 (.bool false) (.slice none 0 0)/\Bl A D)
 case first =>
  have S:=qh (λ(d:World) (i:Bl aO d)=>And.intro (q.below i q.lt).c0 (q.below i q.lt).c1);have aA:=qh (λ(d:World) (i:Bl aO d)=>And.intro (r.below i r.lt).c0 (r.below i r.lt).c1);have R:=qh q;have ae:=qh r;have ab:=qh z;clear q r z
  refine Ji 4 (JI [(1,Sp.know (Jv (decide (z1<0)) x1 (Ja z1.natAbs) d1)),(3,Sp.know (Jv (decide (z2<0)) x2 (Ja z2.natAbs) d2))]) (λd=>Bl aO d) Zk Zk
   (Jb (Sp.Jk _) (Jb (Sp.Jk _) Jh)) (λ_ _ J i=>J.trans (i.mono J.size)) (zk.drew) ?_
  simp only[zx,zy,zv,zw]
  (refine Jy rfl rfl ?_ (λd j=>?_) ?_;rotate_left;· (have m:=Has.world j;(have M:=S.o _ m);clear j;go_simp;try rfl))
  (refine Jc rfl rfl (λd j=>?_) ?_;· (have m:=Has.world j;go_simp;((refine(ay.o d (t.o.trans (m.mono t.o.size))).mono ?_;rintro e av ⟨rfl,i⟩;exact⟨_,rfl,rfl,i⟩))))
  rintro _ rfl
  (refine Jy rfl rfl ?_ (λd j=>?_) ?_;rotate_left;· (have m:=Has.world j;(have M:=aA.o _ m);clear j;go_simp;try rfl))
  (refine Jc rfl rfl (λd j=>?_) ?_;· (have m:=Has.world j;go_simp;((refine(az.o d (t.o.trans (m.mono t.o.size))).mono ?_;rintro e av ⟨rfl,i⟩;exact⟨_,rfl,rfl,i⟩))))
  rintro _ rfl;refine Jn (λw1 E hF=>?_);clear hF;have C1:=R.o.bl E;have C2:=ae.o.bl E;have C3:=ab.o.bl E;have G2:=t.o.trans (E.mono t.o.size);have U:=qh C1;have V:=qh C2;have W:=qh C3;obtain⟨ag,ah,ai,aj⟩:=C1.all;obtain⟨ak,am,an,ao⟩:=C2.all;have F:=qh G2;clear C1 C2 C3 E S aA G2;go_wp2_with fail
  go_meet
  case rel =>
   exact⟨((U.o.set _ _).oz).oz,((V.o.oz).oz).set _ _,(((W.o.oz).oz).oz).oz,
    (((F.o.setCell (by simp) _).setCell (by simp) _).setCell (by simp) _).setCell (by simp) _⟩
 case rest =>
  obtain⟨q,r,z,t⟩:=hcut;obtain⟨w1,rfl⟩:=gn wc;have R1:=r1.below t;have R2:=r2.below t;have AM:=qh<|XE z1.natAbs z2.natAbs x1 x2 d1 d2 w1 R1 R2 Zo Zo;have U:=qh q;have V:=qh r;have W:=qh z;have F:=qh t;have HR:=qh<|And.intro r1 r2;obtain⟨ag,ah,ai,aj⟩:=q.all;obtain⟨ak,am,an,ao⟩:=r.all;clear q r z t R1 R2 r1 r2 h1 h2 ay az
  go_upto_if 15 with (first
   | (go_at_call 206;refine AM.o.mono ?_;rintro e w2 ⟨rfl,aF,rfl⟩))
  go_cut [] (λD=>∃ (h l:Int) (xp xq:Option Addr) (dp dq:Nat),h+l=z1+z2/\l.natAbs<=h.natAbs/\Ja h.natAbs<=100000000/\Rd A xp (Ja h.natAbs) (dgi h.natAbs)/\Rd A xq (Ja l.natAbs) (dgi l.natAbs) /\
   Bx D A.heap.size 30 (.bool (decide (h<0))) (.slice xp (Ja h.natAbs) dp)/\Bx D (A.heap.size+1) 30 (.bool (decide (l<0))) (.slice xq (Ja l.natAbs) dq) /\
   Bx D (A.heap.size+1+1) 30 (.bool false) (.slice none 0 0)/\Bl A D)
  case first =>
   by_cases aW:z1.natAbs<z2.natAbs
   ·rw[show Js (z1.natAbs:Int) (z2.natAbs:Int) = -1 from JK Zo];go_wp2_with fail
    go_meet
    case rel =>
     exact⟨z2,z1,x2,x1,d2,d1,Zo,Zo,Zo,HR.o.2,HR.o.1,
      ((U.o.drewN aF |>.set _ _).oz).oz,((V.o.drewN aF |>.oz).oz).set _ _,
      (((W.o.drewN aF |>.oz).oz).oz).oz,
      ((((QC F.o aF).setCell (by simp) _).setCell (by simp) _).setCell (by simp) _).setCell (by simp) _⟩
   ·have hc:decide (Js (z1.natAbs:Int) (z2.natAbs:Int)<0)=false:=by
     refine zo ?_
     rcases Nat.lt_or_ge z2.natAbs z1.natAbs with J | J
     ·rw[JS Zo];omega
     ·rw[J7 Zo];omega
    rw[hc];clear hc;go_wp2_with fail
    go_meet
    case rel=>exact⟨z1,z2,x1,x2,d1,d2,Zo,Zo,Zo,HR.o.1,HR.o.2,U.o.drewN aF,V.o.drewN aF,W.o.drewN aF,QC F.o aF⟩
  case rest =>
   obtain⟨h,l,xp,xq,dp,dq,ez,aD,ar,rp,rq,q,r,z,t⟩:=hcut;obtain⟨w3,rfl⟩:=gn wc;have U:=qh q;have V:=qh r;have W:=qh z;have F:=qh t;have HP:=qh rp;have HQ:=qh rq;have HE:=qh ez;have HL:=qh aD;have aI:=qh ar;have aZ:A.heap.size+1+1<w3.heap.size:=z.lt;obtain⟨ag,ah,ai,aj⟩:=q.all;obtain⟨ak,am,an,ao⟩:=r.all;obtain⟨I,aE⟩:=gn (if decide (h<0)=decide (l<0) then 1 else -1:Int);have HS:=qh aE;clear q r z t rp rq ez aD ar HR AM aE
   go_upto_if 22 with (fail)
   go_cut [] (λD=>Bx D A.heap.size 30 (.bool (decide (h<0))) (.slice xp (Ja h.natAbs) dp)/\Bx D (A.heap.size+1) 30 (.bool (decide (l<0))) (.slice xq (Ja l.natAbs) dq) /\
    Bx D (A.heap.size+1+1) 30 (.bool false) (.slice none 0 0)/\D.rowIs w3.heap.size 2 1 (λ_=>.int .i64 I)/\Bl A D)
   case first =>
    by_cases M:decide (h<0)=decide (l<0)
    ·have e0:(!(decide (h<0)==decide (l<0)))=false:=by rw[M];simp
     have aN:=qh<|HS.o.trans (if_pos M);rw[e0];clear e0 M;go_wp2_with fail
     go_meet
     case rel =>
      exact⟨U.o.alloc _,V.o.alloc _,W.o.alloc _,by
       have J:=World.rowIs_alloc w3 #[.int .i64 1] 2 (λ_=>.int .i64 I) (λaw hi=>by
        match aw,hi with
        | 0,_=>rw[aN.o];rfl)
       exact J,F.o.alloc F.o.size _⟩
    ·have e0:(!(decide (h<0)==decide (l<0)))=true:=by simpa using M
     have aN:=qh<|HS.o.trans (if_neg M);rw[e0];clear e0 M;go_wp2_with fail
     go_meet
     case rel =>
      exact⟨U.o.alloc _,V.o.alloc _,W.o.alloc _,by
       have J:=World.rowIs_alloc w3 #[.int .i64 (-1)] 2 (λ_=>.int .i64 I) (λaw hi=>by
        match aw,hi with
        | 0,_=>rw[aN.o];rfl)
       exact J,F.o.alloc F.o.size _⟩
   case rest =>
    obtain⟨q,r,z,BS,t⟩:=hcut;obtain⟨O,rfl⟩:=gn wc;have R:=qh q;have ae:=qh r;have ab:=qh z;have ax:=qh BS;have HG:=qh t;clear U V W F ag ah ai aj ak am an ao q r z BS t;have aU:=qh cf_add;obtain⟨ac,hF⟩:=gn (λk=>part (dgi h.natAbs) (Ja h.natAbs) k+I*part (dgi l.natAbs) (Ja l.natAbs) k:Nat->Int)
    have au:I=1\/I = -1:=by rw[HS.o];split <;> simp
    have aV:Ja l.natAbs<=Ja h.natAbs:=JP HL.o;have ar:Ja h.natAbs<=100000000:=aI.o
    have N:Jj ac (Ja h.natAbs+1)=(h.natAbs:Int)+I*(l.natAbs:Int):=by rw[hF];exact addF_sum _ _ _ Zo
    obtain⟨p1,p2,p3⟩:=add_plain h l I HL.o HS.o;have aC:=Yi (f:=ac) (n:=Ja h.natAbs+1) (by rw[N];exact p1) (by rw[N];exact add_lt _ _ _ au HL.o);have hcut:Jj (cD ac) (Ja h.natAbs+1)=(h.natAbs:Int)+I*(l.natAbs:Int):=aC.2.trans N;rw[HE.o] at p2 p3
    have K:=qh (λ(d:World) (i:Bl O d)=>KZ 208 #[.pointer (some ⟨A.heap.size,0,none⟩),.pointer (some ⟨w3.heap.size,0,none⟩),.pointer (some ⟨A.heap.size+1,0,none⟩)] (Ja h.natAbs+1) ac (-1) 2 d Zo cf_add
     (λk hk w1 E=>by
      have Z:Bl O w1:=i.trans (E.mono i.size)
      have:=addFn w1 A.heap.size (A.heap.size+1) w3.heap.size _ _ _ xp xq (dgi h.natAbs) (dgi l.natAbs) (Ja h.natAbs) (Ja l.natAbs) dp dq I k (R.o.bl Z) (ae.o.bl Z)
       ((Z.cell (p:=⟨w3.heap.size,0,none⟩) ax.o.lt).trans (ax.o.cell (i:=0) Zo))
       (HP.o.below (HG.o.trans (Z.mono HG.o.size))) (HQ.o.below (HG.o.trans (Z.mono HG.o.size))) Zo Zo Zo au (YW _ _ _) (YW _ _ _)
      rw[hF]
      exact this) (λk _=>by rw[hF];exact addF_bd _ _ _ _ _ au k) Zo Zo Zo Zo)
    have HF:=qh hF;clear hF;have HC:=qh hcut;clear hcut;have S:=qh (λ(d:World) (i:Bl O d)=>And.intro (R.o.bl i).c0 (R.o.bl i).c1);have af:=qh p2;have aJ:=qh p3;clear N p1 p2 p3 aC HE HS HL;obtain⟨aa,hN⟩:=gn (Ja h.natAbs+1);have HN:=qh hN;rw[<- hN] at K HC;have aT:aa<=100000001:=Zo
    have ew:IntKind.i64.wrap ((Ja h.natAbs:Int)+1)=(aa:Int):=by rw[IntWalk.i64_in _ Zo];omega
    have HD:=qh (show Ja (z1+z2).natAbs<=aa/\∀ aw,aw<Ja (z1+z2).natAbs->cD ac aw=dgi (z1+z2).natAbs aw by
     have h1:=JW (QM ac aa);rw[HC.o,af.o] at h1;refine⟨h1,λaw hi=>?_⟩;have h2:=Zt (QM ac aa) aw Zo;rw[HC.o,af.o] at h2
     exact h2.symm)
    have ad:=qh (λ(d:World) (g:Nat) (ho:Own 128 d O.heap.size (some ⟨g,0,none⟩) aa aa (cD ac))=>Zw (decide (h<0)) (some ⟨g,0,none⟩) aa aa (cD ac) d ho.rd (QM ac aa) Zo zj (λJ=>by cases J));rw[HC.o,af.o,aJ.o] at ad;clear hN
    go_upto_region 7 with (fail)
    refine Ji 9 (JI [(7,Sp.made (λg:Nat=>.slice (some ⟨g,0,none⟩) aa aa) (λg d=>Own 128 d O.heap.size (some ⟨g,0,none⟩) aa aa (cD ac))),
      (8,Sp.made (λa:Option Addr=>Jv (decide (z1+z2<0)) a (Ja (z1+z2).natAbs) (Ja (z1+z2).natAbs)) (λa d=>Own 128 d O.heap.size a (Ja (z1+z2).natAbs) (Ja (z1+z2).natAbs) (dgi (z1+z2).natAbs)/\(a=none->Ja (z1+z2).natAbs=0)))])
     (λd=>Bl O d) Zk Zk
     (Jb (Sp.Jf λx A d J i=>J.below i) (Jb (Sp.Jf λx A d J i=>⟨J.1.below i,J.2⟩) Jh)) (λ_ _ J i=>J.trans (i.mono J.size)) (zk.drew) ?_
    simp only[zx,zy,zv,zw]
    iterate 7
     (refine Jy rfl rfl ?_ (λd j=>?_) ?_;rotate_left;· (have m:=Has.world j;(have M:=S.o _ m);clear j;go_simp;try rfl))
    (refine Jc rfl rfl (λd j=>?_) ?_;· (have m:=Has.world j;go_simp;((refine(K.o d m).mono ?_;rintro e av ⟨rfl,ho,i⟩;exact⟨_,rfl,⟨⟨_,rfl⟩,⟨_,rfl,ho.mono m.size⟩⟩,i⟩))))
    rintro _ ⟨g,rfl⟩
    (refine Jc rfl rfl (λd j=>?_) ?_;· (have m:=Has.world j;go_simp;((have h7:=own_of (g:=g) (N:=aa) (T:=128) (o:=cD ac) (b:=O.heap.size) (j.fact 7 Zk);refine(ad.o d g h7).mono ?_;rintro e av ⟨rfl,i⟩;exact⟨_,rfl,⟨⟨_,rfl⟩,⟨_,rfl,(h7.below i).cut HD.o.1 HD.o.2,λJ=>by cases J⟩⟩,i⟩))))
    rintro _ ⟨a,rfl⟩;refine Jn (λw5 aq aB=>?_);have OA:=jdi (T:=128) (b:=O.heap.size) (s:=decide (z1+z2<0)) (L:=Ja (z1+z2).natAbs) (o:=dgi (z1+z2).natAbs) (a:=a) (p:=λx=>x=none->Ja (z1+z2).natAbs=0) (aB 8);have HO:=qh OA;have z:=ab.o.bl aq;have aG:=qh z;obtain⟨aP,aQ,aR,aS⟩:=z.all;have aH:=qh<|HG.o.trans (aq.mono HG.o.size);have a0:=ab.o.lt;have aM:=HG.o.size;clear aB OA z aq S K ad HD;go_wp2;refine bodyPost_ret (Je rfl _ _ _ _ _ _ _ rfl (aG.o.set _ _) underlying30 rfl Zk) rfl ⟨a,rfl,?_,HO.o.2,?_⟩
    ·exact((HO.o.1.oz).oz).mono aM
    ·exact(aH.o.sc).sc
def VJ (w:World) (z:Int) (e:Ending) (w':World):Prop :=
 ∃ a,e=.returned (Jv (decide (z<0)) a (Ja z.natAbs) (Ja z.natAbs))/\Own 128 w' w.heap.size a (Ja z.natAbs) (Ja z.natAbs) (dgi z.natAbs)/\(a=none->Ja z.natAbs=0)/\Bl w w'
theorem jdj (m:Bool) (i:Option Addr) (d c1:Nat) (k:Nat->Int) (q:Bool) (j:Option Addr) (h c2:Nat) (l:Nat->Int) (v:World)
  (z:Rd v i d k) (t:d<=100000000) (r:d<=c1) (A:Rd v j h l) (u:h<=100000000) (s:h<=c2) :
  Cl 170 #[Jv m i d c1,Jv q j h c2] v (VJ v (Jp m d k+Jp q h l)):=Y8 m i d c1 k q j h c2 l v z t r A u s
theorem JY (z:Int):okN (decide (z<0)) (Ja z.natAbs) (dgi z.natAbs):=by
 refine⟨λj h=>(Jr _ _ j h).2,λd=>?_,λd=>?_⟩
 ·have:=QI.1 d;exact zo Zo
 ·have i:=Uh (m:=z.natAbs) (λe=>by rw[e,Jw] at d;omega);show((dg z.natAbs (Ja z.natAbs-1):Nat):Int)≠0;omega
theorem Jl (z:Int):Jp (decide (z<0)) (Ja z.natAbs) (dgi z.natAbs)=z:=by
 unfold Jp;rw[if_pos (JY z),Jz];by_cases d:z<0
 ·rw[if_pos (decide_eq_true d)];omega
 ·rw[if_neg (by simpa using d)];omega
theorem jjs (z:Int) (i:Bool) (d:i=decide (-z<0)):Jp i (Ja z.natAbs) (dgi z.natAbs) = -z:=by
 have h:=Jl (-z);rw[Int.natAbs_neg] at h;rw[d];exact h
theorem jb0 {x:Option Addr × Nat} (d:∃ y:Option Addr × Nat,Value.slice x.1 L x.2=.slice y.1 L y.2/\Own T w b y.1 L y.2 o/\(y.1=none->y.2=0)):Own T w b x.1 L x.2 o/\(x.1=none->x.2=0):=by
 obtain⟨y,e,d⟩:=d;simp only[Value.slice.injEq] at e;rw[e.1,e.2.2];exact d
theorem Uz {z:Int}:0<Ja z.natAbs↔z≠0:=by
 constructor
 ·intro h d;rw[d,show Int.natAbs 0=0 from rfl,Jw] at h;omega
 ·intro h
  rcases Nat.eq_zero_or_pos (Ja z.natAbs) with d | d
  ·have:=QI.1 d;omega
  ·exact d
theorem jfq (z:Int):((!decide (z<0))&&decide (0<Ja z.natAbs))=decide (-z<0):=by
 have h:=Uz (z:=z);by_cases d:z<0
 ·simp only[d,decide_true,Bool.not_true,Bool.false_and];exact(zo Zo).symm
 ·simp only[d,decide_false,Bool.not_false,Bool.true_and];exact decide_eq_decide.2 (h.trans Zo)
theorem neg_any (v:Bool) (z:Option Addr) (l c1:Nat) (H:Nat->Int) (q:World)
  (h1:Rd q z l H) (an:l<=100000000) (af:l<=c1) :
  Cl 202 #[Jv v z l c1] q (VJ q (- Jp v l H)):=by
 obtain⟨E,d2,R,l2,m2,N⟩:=XM v z l c1 H q h1 Zo af
 generalize Jp v l H=z2 at R l2 m2 N ⊢
 have Y:=qh N;have Z:=qh R;have j:=qh<|(Bx.new q 30 (.bool v) (.slice z l c1)).alloc (.cells #[.bool false,.slice none 0 0] 30);have k:=qh<|Bx.Zu q (.cells #[.bool v,.slice z l c1] 30) 30 (.bool false) (.slice none 0 0);clear N h1 R;go_enter func202,ntmps202;go_wp2_with fail
 refine(Y.o _ ?_).mono ?_
 ·exact qg
 rintro e w1 ⟨rfl,t⟩;have M:=j.o.bl t;have u:=k.o.bl t;have U:=qh ((zk.alloc (by go_size) _ |>.alloc (by go_size) _).trans (t.mono (by go_size)):Bl q w1);have K1:=qh M;have K2:=qh u;obtain⟨ab,ac,ad,ae⟩:=M.all;clear j k M u t
 go_upto_region 2 with (fail)
 obtain⟨J,O⟩:=gn ((w1.setCell ⟨q.heap.size,0,none⟩ (.bool (decide (z2<0)))).setCell ⟨q.heap.size,1,none⟩ (.slice E (Ja z2.natAbs) d2));rw[<- O];have j:=qh<|K1.o.set (.bool (decide (z2<0))) (.slice E (Ja z2.natAbs) d2);have k:=qh<|(K2.o.other (a:=⟨q.heap.size,0,none⟩) Zd (.bool (decide (z2<0)))).other (a:=⟨q.heap.size,1,none⟩) Zd (.slice E (Ja z2.natAbs) d2);have HG:=qh<|(U.o.setCell (p:=⟨q.heap.size,0,none⟩) zj (.bool (decide (z2<0)))).setCell (p:=⟨q.heap.size,1,none⟩) zj (.slice E (Ja z2.natAbs) d2);rw[<- O] at j k HG;clear O ab ac ad ae K1 K2 U;have I:=qh (λ(d:World) (h:Bl J d)=>And.intro (j.o.bl h).c0 (j.o.bl h).c1);have S:=qh (λ(d:World) (h:Bl J d)=>XR E (Ja z2.natAbs) d2 (dgi z2.natAbs) d (Z.o.below (HG.o.trans (h.mono HG.o.size))) Zo);have r:=qh (λ(d:World) (x:Option Addr × Nat) (G:Own 128 d J.heap.size x.1 (Ja z2.natAbs) x.2 (dgi z2.natAbs)) (hx:x.1=none->x.2=0)=>Zw (!decide (z2<0)) x.1 (Ja z2.natAbs) x.2 (dgi z2.natAbs) d G.rd (Jr _ _) Zo G.le hx);rw[Jz,Int.toNat_natCast,jfq] at r;obtain⟨sB,D⟩:=gn (decide (-z2<0));rw[<- D] at r;have aa:=qh D;clear D
 refine Ji 7 (JI [(5,Sp.made (λx:Option Addr × Nat=>.slice x.1 (Ja z2.natAbs) x.2) (λx d=>Own 128 d J.heap.size x.1 (Ja z2.natAbs) x.2 (dgi z2.natAbs)/\(x.1=none->x.2=0))),
   (6,Sp.made (λa:Option Addr=>Jv sB a (Ja z2.natAbs) (Ja z2.natAbs)) (λa d=>Own 128 d J.heap.size a (Ja z2.natAbs) (Ja z2.natAbs) (dgi z2.natAbs)/\(a=none->Ja z2.natAbs=0)))])
  (λd=>Bl J d) Zk Zk
  (Jb (Sp.Jf λx q d F h=>⟨F.1.below h,F.2⟩) (Jb (Sp.Jf λx q d F h=>⟨F.1.below h,F.2⟩) Jh)) (λ_ _ F h=>F.trans (h.mono F.size)) (zk.drew) ?_
 simp only[zx,zy,zv,zw]
 iterate 5
  (refine Jy rfl rfl ?_ (λd i=>?_) ?_;rotate_left;· (have m:=Has.world i;(have hs:=I.o _ m);clear i;go_simp;try rfl))
 (refine Jc rfl rfl (λd i=>?_) ?_;· (have m:=Has.world i;go_simp;((refine(S.o d m).mono ?_;rintro e ah ⟨a',A,rfl,G,hn,h⟩;exact⟨_,rfl,⟨⟨a',A,rfl⟩,⟨a',A,rfl,G.mono m.size,hn⟩⟩,h⟩))))
 rintro _ ⟨x,rfl⟩
 (refine Jc rfl rfl (λd i=>?_) ?_;· (have m:=Has.world i;go_simp;((have B:=jb0 (x:=x) (L:=Ja z2.natAbs) (T:=128) (o:=dgi z2.natAbs) (b:=J.heap.size) (i.fact 5 Zk);refine(r.o d x B.1 B.2).mono ?_;rintro e ah ⟨rfl,h⟩;exact⟨_,rfl,⟨⟨_,rfl⟩,⟨_,rfl,(B.1.below h).cut zj (λ_ _=>rfl),λF=>by have:=B.1.le;have:=B.2 F;omega⟩⟩,h⟩))))
 rintro _ ⟨a,rfl⟩;refine Jn (λw5 C K=>?_);have OA:=jdi (T:=128) (b:=J.heap.size) (s:=sB) (L:=Ja z2.natAbs) (o:=dgi z2.natAbs) (a:=a) (p:=λx=>x=none->Ja z2.natAbs=0) (K 6);have X:=qh OA;have u:=k.o.bl C;have V:=qh u;obtain⟨ai,aj,ak,am⟩:=u.all;have W:=qh<|HG.o.trans (C.mono HG.o.size);have ao:=k.o.lt;have ag:=HG.o.size;clear K OA u C I S r;go_wp2_with fail
 unfold VJ;rw[Int.natAbs_neg,<- aa.o];refine bodyPost_ret (Je rfl _ _ _ _ _ _ _ rfl (V.o.set _ _) underlying30 rfl Zk) rfl ⟨a,rfl,?_,X.o.2,?_⟩
 ·exact((X.o.1.oz).oz).mono ag
 ·exact(W.o.sc).sc
theorem jcx (j i:Int):Js j i=if j<0 then (if i<0 then Js (i.natAbs:Int) (j.natAbs:Int) else -1) else if i<0 then 1 else Js (j.natAbs:Int) (i.natAbs:Int):=by
 by_cases d:j<0 <;> by_cases h:i<0
 ·rw[if_pos d,if_pos h];exact Qg Zo Zo
 ·rw[if_pos d,if_neg h];exact JK Zo
 ·rw[if_neg d,if_pos h];exact JS Zo
 ·rw[if_neg d,if_neg h];exact Qg Zo Zo
theorem Y7 (u:Bool) (A:Option Addr) (d c1:Nat) (G:Nat->Int) (v:Bool) (B:Option Addr) (h c2:Nat) (H:Nat->Int) (D:World)
  (h1:Rd D A d G) (aq:d<=100000000) (ai:d<=c1) (h2:Rd D B h H) (ar:h<=100000000) (aj:h<=c2) :
  Cl 210 #[Jv u A d c1,Jv v B h c2] D λe j=>e=.returned (.int .i64 (Js (Jp u d G) (Jp v h H)))/\Bl D j:=by
 obtain⟨I,F,Z,l1,m1,V⟩:=XM u A d c1 G D h1 Zo ai;obtain⟨J,d2,r2,l2,m2,W⟩:=XM v B h c2 H D h2 Zo aj
 generalize Jp u d G=z1 at Z l1 m1 V ⊢
 have M:=qh V;clear V
 generalize Jp v h H=z2 at r2 l2 m2 W ⊢
 have N:=qh W;clear W;have q:=((Bx.new D 30 (.bool u) (.slice A d c1)).alloc (.cells #[.bool v,.slice B h c2] 30));have r:=(Bx.Zu D (.cells #[.bool u,.slice A d c1] 30) 30 (.bool v) (.slice B h c2));go_enter func210,ntmps210
 go_upto_region 1 with (fail)
 obtain⟨am,Y⟩:=gn ((D.alloc (.cells #[.bool u,.slice A d c1] 30)).alloc (.cells #[.bool v,.slice B h c2] 30));have k:=qh ((zk.alloc (by go_size) _ |>.alloc (by go_size) _):Bl D ((D.alloc (.cells #[.bool u,.slice A d c1] 30)).alloc (.cells #[.bool v,.slice B h c2] 30)));rw[<- Y] at q r k;rw[<- Y];clear Y;go_cut [] (λwx=>Bx wx D.heap.size 30 (.bool (decide (z1<0))) (.slice I (Ja z1.natAbs) F)/\Bx wx (D.heap.size+1) 30 (.bool (decide (z2<0))) (.slice J (Ja z2.natAbs) d2)/\Bl D wx)
 case first =>
  have O:=qh (λ(j:World) (l:Bl am j)=>And.intro (q.below l q.lt).c0 (q.below l q.lt).c1);have R:=qh (λ(j:World) (l:Bl am j)=>And.intro (r.below l r.lt).c0 (r.below l r.lt).c1);have aa:=qh q;have ab:=qh r;clear q r
  refine Ji 4 (JI [(1,Sp.know (Jv (decide (z1<0)) I (Ja z1.natAbs) F)),(3,Sp.know (Jv (decide (z2<0)) J (Ja z2.natAbs) d2))]) (λj=>Bl am j) Zk Zk
   (Jb (Sp.Jk _) (Jb (Sp.Jk _) Jh)) (λ_ _ ao l=>ao.trans (l.mono ao.size)) (zk.drew) ?_
  simp only[zx,zy,zv,zw]
  (refine Jy rfl rfl ?_ (λj i=>?_) ?_;rotate_left;· (have m:=Has.world i;(have hs:=O.o _ m);clear i;go_simp;try rfl))
  (refine Jc rfl rfl (λj i=>?_) ?_;· (have m:=Has.world i;go_simp;((refine(M.o j (k.o.trans (m.mono k.o.size))).mono ?_;rintro e ak ⟨rfl,l⟩;exact⟨_,rfl,rfl,l⟩))))
  rintro _ rfl
  (refine Jy rfl rfl ?_ (λj i=>?_) ?_;rotate_left;· (have m:=Has.world i;(have hs:=R.o _ m);clear i;go_simp;try rfl))
  (refine Jc rfl rfl (λj i=>?_) ?_;· (have m:=Has.world i;go_simp;((refine(N.o j (k.o.trans (m.mono k.o.size))).mono ?_;rintro e ak ⟨rfl,l⟩;exact⟨_,rfl,rfl,l⟩))))
  rintro _ rfl;refine Jn (λw1 C hF=>?_);clear hF;have S:=aa.o.bl C;have U:=ab.o.bl C;have G2:=k.o.trans (C.mono k.o.size);have K1:=qh S;have K2:=qh U;obtain⟨s,ac,ad,ae⟩:=S.all;obtain⟨t,af,ag,ah⟩:=U.all;have E:=qh G2;clear S U C O R G2;go_wp2_with fail
  go_meet
  case rel =>
   exact⟨((K1.o.set _ _).oz).oz,((K2.o.oz).oz).set _ _,
    (((E.o.setCell (by simp) _).setCell (by simp) _).setCell (by simp) _).setCell (by simp) _⟩
 case rest =>
  obtain⟨q,r,k⟩:=hcut;obtain⟨w1,rfl⟩:=gn wc;have X:=Z.below k;have R2:=r2.below k;have AM:=qh<|XE z1.natAbs z2.natAbs I J F d2 w1 X R2 Zo Zo;have AN:=qh<|XE z2.natAbs z1.natAbs J I d2 F w1 R2 X Zo Zo;have E:=qh k;have K:=qh<|jcx z1 z2;obtain⟨s,ac,ad,ae⟩:=q.all;obtain⟨t,af,ag,ah⟩:=r.all;clear q r k X R2 Z r2 h1 h2 M N
  by_cases d:z1<0 <;> by_cases h:z2<0
  ·have z:=qh<|K.o.trans (by rw[if_pos d,if_pos h]);rw[decide_eq_true d] at s;rw[decide_eq_true h] at t;clear d h K;go_wp2_with fail
   refine AN.o.mono ?_;rintro e w2 ⟨rfl,an,rfl⟩;go_wp2;go_ret;exact⟨by rw[z.o];rfl,QC E.o an⟩
  ·have z:=qh<|K.o.trans (by rw[if_pos d,if_neg h]);rw[decide_eq_true d] at s;rw[zo h] at t;clear d h K;go_wp2;go_ret;exact⟨by rw[z.o];rfl,E.o⟩
  ·have z:=qh<|K.o.trans (by rw[if_neg d,if_pos h]);rw[zo d] at s;rw[decide_eq_true h] at t;clear d h K;go_wp2;go_ret;exact⟨by rw[z.o];rfl,E.o⟩
  ·have z:=qh<|K.o.trans (by rw[if_neg d,if_neg h]);rw[zo d] at s;rw[zo h] at t;clear d h K;go_wp2_with fail
   refine AM.o.mono ?_;rintro e w2 ⟨rfl,an,rfl⟩;go_wp2;go_ret;exact⟨by rw[z.o];rfl,QC E.o an⟩
theorem jjt:Jp false 0 (λ_=>0)=0:=by
 unfold Jp
 split <;> rfl
theorem Kr (k:Bool) (i:Option Addr) (d c1:Nat) (j:Nat->Int) (u:World) (l:Rd u i d j) (q:d<=100000000) (m:d<=c1) :
  Cl 171 #[Jv k i d c1] u λe r=>e=.returned (.int .i64 (Js (Jp k d j) 0))/\Bl u r:=by
 have t:=qh l;clear l;go_enter func171,ntmps171;go_wp2_with fail
 refine(Y7 k i d c1 j false none 0 0 (λ_=>0) _ (t.o.below (w':=_) ?_) q m (Rd.nil _ _ _) Zo zj).mono ?_
 ·exact qg
 rw[jjt];rintro e v ⟨rfl,h⟩;have s:=(zk.alloc (by go_size) _).trans (h.mono (by go_size));clear h;go_wp2;go_ret;exact⟨rfl,s⟩
open Classical in
theorem Xz (s:Bool) (a:Option Addr) (n q:Nat) (o:Nat->Int) (t:World) (F:Rd t a n o) (X:n<=1000000000) :
  Cl 188 #[Jv s a n q] t λe O=>e=.returned (.bool (decide (okN s n o)))/\Bl t O:=by
 obtain⟨h,R,v,u⟩:=Xh o n;have M:=qh v;have K:=qh u;have B:=qh F;have J:=qh (λ(z:h<n)=>show decide (okN s n o)=false from zo λk=>by have:=k.1 h z;have:=u z;omega)
 have H:=qh (λ(i:n=0)=>show decide (okN s n o) = !s by
    subst i
    cases s with
    | false=>exact decide_eq_true ⟨λA N=>Zo,λ_=>rfl,λF=>Zo⟩
    | true=>exact zo λk=>by have:=k.2.1 rfl;contradiction)
 have I:=qh (λ(i:0<n) (z:¬h<n)=>show decide (okN s n o)=(o (n-1) != 0) by
    by_cases m:o (n-1)=0
    ·rw[m]
     exact zo λk=>k.2.2 Zo m
    ·rw[show(o (n-1) != 0)=true by simpa using m]
     exact decide_eq_true ⟨λA N=>v A Zo,λF=>Zo,λ_=>m⟩)
 clear v u F;go_enter func188,ntmps188;go_wp2;go_loopw [3] (λA wr=>∃ d:Nat,d<=h/\A=.int .i64 d/\wr=t.alloc (.cells #[.bool s,.slice a n q] 30)) (λA _=>n-(intOf A).toNat)
 case atStart=>exact⟨0,Zo,rfl,rfl⟩
 case round =>
  obtain⟨d,W,rfl,rfl⟩:=hrel;by_cases l:d<n
  ·obtain⟨b,off,rfl,j⟩:=B.o.cells Zo;have c1:t.cell? ⟨b,off+d,none⟩=some (.int .u32 (o d)):=j d l;have E:b<t.heap.size:=block_lt_of_cell c1;clear j;by_cases C:d<h
   ·have S:=M.o d C;go_wp2;go_roundw
    case rel=>exact⟨d+1,Zo,by go_num,by trivial⟩
    case measure=>simp[intOf];omega
   ·obtain rfl:d=h:=Zo;have S:=K.o l;go_wp2;go_ret;exact⟨by rw[J.o l];rfl,qg⟩
  ·have D:¬h<n:=Zo;obtain rfl:d=n:=Zo;by_cases i:d=0
   ·have G:=qh<|H.o i;subst i;go_wp2;go_ret;exact⟨by rw[G.o];rfl,qg⟩
   ·obtain⟨r,rfl⟩:∃ r,d=r+1:=⟨d-1,Zo⟩;have G:=qh<|I.o Zo D;obtain⟨b,off,rfl,j⟩:=B.o.cells Zo;have c1:t.cell? ⟨b,off+r,none⟩=some (.int .u32 (o r)):=j r Zo;have E:b<t.heap.size:=block_lt_of_cell c1;have U:((r+1:Nat):Int)-1=(r:Int):=Zo
    have V:(decide (((r+1:Nat):Int)=0))=false:=by simp;omega
    clear j;go_wp2;go_ret;exact⟨by rw[G.o];rfl,qg⟩
open Classical in
theorem Xw (m:Bool) (a:Option Addr) (n d:Nat) (o:Nat->Int) (M:World) (v:Rd M a n o) (K:n<=1000000000) (t:n<=d) :
  ∃ B r,Rd M B (Ja (Jp m n o).natAbs) (dgi (Jp m n o).natAbs)/\Ja (Jp m n o).natAbs<=n/\Ja (Jp m n o).natAbs<=r /\
   ∀ i,Bl M i->Cl 205 #[Jv m a n d] i λe N=>e=.returned (Jv (decide (Jp m n o<0)) B (Ja (Jp m n o).natAbs) r)/\Bl i N:=by
 by_cases q:okN m n o
 ·obtain⟨G,H,I⟩:=QD m n o q v.rng;rw[G,H];refine⟨a,d,v.congr I,zj,t,λi j=>?_⟩;have A:=qh (λ(k:World) (u:Bl i k)=>Xz m a n d o k (v.below (j.trans (u.mono j.size))) K);rw[decide_eq_true q] at A;clear v G H I q j;go_enter func205,ntmps205;go_wp2_with fail
  refine(A.o _ ?_).mono ?_
  ·exact qg
  rintro e k ⟨rfl,h⟩;have z:=((Bx.new i 30 (.bool m) (.slice a n d)).alloc (.cells #[.bool false,.slice none 0 0] 30)).below h (by simp;omega);have l:=(Bx.Zu i (.cells #[.bool m,.slice a n d] 30) 30 (.bool false) (.slice none 0 0)).below h (by simp);have J:Bl i k:=(zk.alloc zj _ |>.alloc (by go_size) _).trans (h.mono (by go_size));obtain⟨O,R,S,U⟩:=z.all;obtain⟨C,D,E,F⟩:=l.all;have s:=qh l;clear h z l;go_wp2;refine bodyPost_ret (Je rfl _ _ _ _ _ _ _ rfl (s.o.set _ _) underlying30 rfl Zk) rfl ⟨rfl,?_⟩;exact qg
 ·rw[show Jp m n o=0 from je5 q];rw[show(Int.natAbs 0)=0 from rfl,Jw,show decide ((0:Int)<0)=false from rfl];refine⟨none,0,Rd.nil _ _ _,Nat.zero_le _,zj,λi j=>?_⟩;have A:=qh (λ(k:World) (u:Bl i k)=>Xz m a n d o k (v.below (j.trans (u.mono j.size))) K);rw[zo q] at A;clear v q j;go_enter func205,ntmps205;go_wp2_with fail
  refine(A.o _ ?_).mono ?_
  ·exact qg
  rintro e k ⟨rfl,h⟩;have l:=(Bx.Zu i (.cells #[.bool m,.slice a n d] 30) 30 (.bool false) (.slice none 0 0)).below h (by simp);have J:Bl i k:=(zk.alloc zj _ |>.alloc (by go_size) _).trans (h.mono (by go_size));obtain⟨C,D,E,F⟩:=l.all;have s:=qh l;clear h l;go_wp2;refine bodyPost_ret (Je rfl _ _ _ _ _ _ _ rfl (s.o.set _ _) underlying30 rfl Zk) rfl ⟨rfl,?_⟩;exact qg
theorem ZU {i:Nat} {d:Nat->Int} (j:w.rowIs g 128 n (uc d)) (v:Int):(w.setCell ⟨g,i,none⟩ (.int .u32 v)).rowIs g 128 n (uc (upd d i v)) :=
 (j.set i (.int .u32 v)).congr λh k=>by
  by_cases e:h=i
  ·subst e;rw[if_pos rfl];show _=Value.int .u32 (upd d h v h);rw[upd_same]
  ·rw[if_neg e];show Value.int .u32 (d h)=Value.int .u32 (upd d i v h);rw[upd_ne d v e]
theorem jfr (j i:Int):((!(decide (j<0)==decide (i<0)))&&decide (0<Ja (j*i).natAbs))=decide (j*i<0):=by
 have l:=Uz (z:=j*i)
 rcases Int.lt_trichotomy j 0 with h | h | h
 ·rcases Int.lt_trichotomy i 0 with d | d | d
  ·have:=Int.mul_pos_of_neg_of_neg h d;simp[h,d];omega
  ·subst d;simp[h,Jw]
  ·have:=Int.mul_neg_of_neg_of_pos h d;have k:¬i<0:=Zo;simp only[h,k,decide_true,decide_false,Bool.true_beq,Bool.not_false,Bool.true_and];exact decide_eq_decide.2 (l.trans Zo)
 ·subst h;simp[Jw]
 ·rcases Int.lt_trichotomy i 0 with d | d | d
  ·have:=Int.mul_neg_of_pos_of_neg h d;have k:¬j<0:=Zo;simp only[d,k,decide_true,decide_false,Bool.false_beq,Bool.not_true,Bool.not_false,Bool.true_and];exact decide_eq_decide.2 (l.trans Zo)
  ·subst d;simp[Jw]
  ·have:=Int.mul_pos h d;have k:¬j<0:=Zo;have m:¬i<0:=Zo;simp[k,m];omega
theorem Kb (F:Bool) (I:Option Addr) (s c1:Nat) (o1:Nat->Int) (G:Bool) (J:Option Addr) (t c2:Nat) (o2:Nat->Int) (u:World)
  (h1:Rd u I s o1) (aS:s<=100000000) (aD:s<=c1) (h2:Rd u J t o2) (aT:t<=100000000) (aE:t<=c2) :
  Cl 105 #[Jv F I s c1,Jv G J t c2] u (VJ u (Jp F s o1*Jp G t o2)):=by
 obtain⟨x1,d1,r1,l1,m1,O1⟩:=XM F I s c1 o1 u h1 Zo aD;obtain⟨x2,d2,r2,l2,m2,O2⟩:=XM G J t c2 o2 u h2 Zo aE
 generalize Jp F s o1=z1 at r1 l1 m1 O1 ⊢
 have ak:=qh O1;clear O1
 generalize Jp G t o2=z2 at r2 l2 m2 O2 ⊢
 have am:=qh O2;clear O2;have i:=(((Bx.new u 30 (.bool F) (.slice I s c1)).alloc (.cells #[.bool G,.slice J t c2] 30)).alloc (.cells #[.bool false,.slice none 0 0] 30));have d:=((Bx.Zu u (.cells #[.bool F,.slice I s c1] 30) 30 (.bool G) (.slice J t c2)).alloc (.cells #[.bool false,.slice none 0 0] 30));have j:=(Bx.new3 u (.cells #[.bool F,.slice I s c1] 30) (.cells #[.bool G,.slice J t c2] 30) 30 (.bool false) (.slice none 0 0));go_enter func105,ntmps105
 go_upto_region 1 with (fail)
 obtain⟨aL,hW⟩:=gn (((u.alloc (.cells #[.bool F,.slice I s c1] 30)).alloc (.cells #[.bool G,.slice J t c2] 30)).alloc (.cells #[.bool false,.slice none 0 0] 30));have B:=qh ((zk.alloc (by go_size) _ |>.alloc (by go_size) _ |>.alloc (by go_size) _):Bl u (((u.alloc (.cells #[.bool F,.slice I s c1] 30)).alloc (.cells #[.bool G,.slice J t c2] 30)).alloc (.cells #[.bool false,.slice none 0 0] 30)));rw[<- hW] at i d j B;rw[<- hW];clear hW
 go_cut [] (λwx=>Bx wx u.heap.size 30 (.bool (decide (z1<0))) (.slice x1 (Ja z1.natAbs) d1)/\Bx wx (u.heap.size+1) 30 (.bool (decide (z2<0))) (.slice x2 (Ja z2.natAbs) d2) /\
  Bx wx (u.heap.size+1+1) 30 (.bool false) (.slice none 0 0)/\Bl u wx)
 case first =>
  have an:=qh (λ(A:World) (r:Bl aL A)=>And.intro (i.below r i.lt).c0 (i.below r i.lt).c1);have ao:=qh (λ(A:World) (r:Bl aL A)=>And.intro (d.below r d.lt).c0 (d.below r d.lt).c1);have ay:=qh i;have az:=qh d;have aA:=qh j;clear i d j
  refine Ji 4 (JI [(1,Sp.know (Jv (decide (z1<0)) x1 (Ja z1.natAbs) d1)),(3,Sp.know (Jv (decide (z2<0)) x2 (Ja z2.natAbs) d2))]) (λA=>Bl aL A) Zk Zk
   (Jb (Sp.Jk _) (Jb (Sp.Jk _) Jh)) (λ_ _ aw r=>aw.trans (r.mono aw.size)) (zk.drew) ?_
  simp only[zx,zy,zv,zw]
  (refine Jy rfl rfl ?_ (λA q=>?_) ?_;rotate_left;· (have z:=Has.world q;(have hs:=an.o _ z);clear q;go_simp;try rfl))
  (refine Jc rfl rfl (λA q=>?_) ?_;· (have z:=Has.world q;go_simp;((refine(ak.o A (B.o.trans (z.mono B.o.size))).mono ?_;rintro e aI ⟨rfl,r⟩;exact⟨_,rfl,rfl,r⟩))))
  rintro _ rfl
  (refine Jy rfl rfl ?_ (λA q=>?_) ?_;rotate_left;· (have z:=Has.world q;(have hs:=ao.o _ z);clear q;go_simp;try rfl))
  (refine Jc rfl rfl (λA q=>?_) ?_;· (have z:=Has.world q;go_simp;((refine(am.o A (B.o.trans (z.mono B.o.size))).mono ?_;rintro e aI ⟨rfl,r⟩;exact⟨_,rfl,rfl,r⟩))))
  rintro _ rfl;refine Jn (λV R hF=>?_);clear hF;have C1:=ay.o.bl R;have C2:=az.o.bl R;have C3:=aA.o.bl R;have G2:=B.o.trans (R.mono B.o.size);have K1:=qh C1;have K2:=qh C2;have K3:=qh C3;obtain⟨X,K,Y,Z⟩:=C1.all;obtain⟨M,C,N,O⟩:=C2.all;have KG:=qh G2;clear C1 C2 C3 R an ao G2;go_wp2_with fail
  go_meet
  case rel =>
   exact⟨((K1.o.set _ _).oz).oz,((K2.o.oz).oz).set _ _,(((K3.o.oz).oz).oz).oz,
    (((KG.o.setCell (by simp) _).setCell (by simp) _).setCell (by simp) _).setCell (by simp) _⟩
 case rest =>
  obtain⟨i,d,j,B⟩:=hcut;obtain⟨V,rfl⟩:=gn wc;have ae:=qh r1;have af:=qh r2;have KG:=qh B;have K1:=qh i;have K2:=qh d;have K3:=qh j;obtain⟨X,K,Y,Z⟩:=i.all;obtain⟨M,C,N,O⟩:=d.all;obtain⟨n,hn⟩:=gn (Ja z1.natAbs+Ja z2.natAbs);have H:=qh hn;have aU:n<=200000000:=Zo;have ew:((Ja z1.natAbs:Nat):Int)+((Ja z2.natAbs:Nat):Int)=(n:Int):=Zo;have aF:=run_make_row' (P:=prog) 28 128 (.int .u32 0) 4 underlying28 QQ rfl .i64 .i64 n Zo Zo;clear i d j B r1 r2 h1 h2 ak am hn;obtain⟨aq,hX⟩:=gn (Ja z1.natAbs);obtain⟨aj,hY⟩:=gn (Ja z2.natAbs);rw[<- hX] at K ae ew l1 m1 H;rw[<- hY] at C af ew l2 m2 H;have HX:=qh hX;have HY:=qh hY;have aV:=K3.o.lt;clear hX hY;obtain⟨m,ac⟩:=gn (dgi z1.natAbs);obtain⟨l,ad⟩:=gn (dgi z2.natAbs);have DX:=qh (show Dig m aq by rw[ac];exact Jr _ _);have DY:=qh (show Dig l aj by rw[ad];exact Jr _ _);have SX:=qh (show Jj m aq=z1.natAbs by rw[ac,HX.o];exact Jz _);have SY:=qh (show Jj l aj=z2.natAbs by rw[ad,HY.o];exact Jz _);rw[<- ac] at ae;rw[<- ad] at af;clear ac ad;go_wp2
  go_loopw [26] (λU wr=>∃ k:Nat,k<=aq/\U=.int .i64 k/\(∃ o,Zm m l aj n k o/\wr.rowIs V.heap.size 128 n (uc o)) /\
   Bx wr u.heap.size 30 (.bool (decide (z1<0))) (.slice x1 aq d1)/\Bx wr (u.heap.size+1) 30 (.bool (decide (z2<0))) (.slice x2 aj d2) /\
   Bx wr (u.heap.size+1+1) 30 (.bool false) (.slice none 0 0)/\Bl u wr) (λU _=>aq-(intOf U).toNat)
  case atStart =>
   exact⟨0,Zo,rfl,⟨_,Zm.start _ _ _ _,World.rowIs_made V (.int .u32 0) n 128⟩,(HX.o▸K1.o).alloc _,(HY.o▸K2.o).alloc _,K3.o.alloc _,KG.o.alloc KG.o.size _⟩
  case round =>
   obtain⟨k,hk,rfl,⟨o,D,E⟩,i,d,j,ax⟩:=hrel;have KM:=qh D;have KR:=qh E;have W:=qh ax;have J1:=qh i;have J2:=qh d;have J3:=qh j;obtain⟨M,C,N,O⟩:=d.all;obtain⟨X,K,Y,Z⟩:=i.all;clear D E ax i d j aF;by_cases ar:k<aq
   ·obtain⟨pb,po,rfl,hc⟩:=(ae.o.below W.o).cells Zo;have c1:=hc k ar;clear hc;go_wp2
    go_loopw [8,34] (λon U S=>∃ h:Nat,h<=aj/\U=.int .i64 h/\(∃ p v,on=.int .u64 v/\YT m l aj n k h p v/\S.rowIs V.heap.size 128 n (uc p)) /\
     Bx S u.heap.size 30 (.bool (decide (z1<0))) (.slice (some ⟨pb,po,none⟩) aq d1)/\Bx S (u.heap.size+1) 30 (.bool (decide (z2<0))) (.slice x2 aj d2) /\
     Bx S (u.heap.size+1+1) 30 (.bool false) (.slice none 0 0)/\Bl u S) (λ_ U _=>aj-(intOf U).toNat)
    case atStart=>exact⟨0,Zo,rfl,⟨_,_,rfl,KM.o.inner,KR.o⟩,J1.o,J2.o,J3.o,W.o⟩
    case round =>
     obtain⟨h,hj,rfl,⟨p,v,rfl,hI,E⟩,i,d,j,ax⟩:=hrel;have LM:=qh hI;have LR:=qh E;have LG:=qh ax;have L1:=qh i;have L2:=qh d;have L3:=qh j;clear X K Y Z M C N O c1;obtain⟨M,C,N,O⟩:=d.all;have aR:=E.frozen;clear hI E ax i d j;by_cases ah:h<aj
     ·obtain⟨qb,qo,rfl,hc⟩:=(af.o.below LG.o).cells Zo;have c2:wr.cell? ⟨qb,qo+h,none⟩=some (.int .u32 (l h)):=hc h ah;have c3:wr.cell? ⟨V.heap.size,k+h,none⟩=some (.int .u32 (p (k+h))):=LR.o.cell (i:=k+h) (Zh H);have hx:=DX.o k ar;have hy:=DY.o h ah;obtain⟨hT,hS⟩:=LM.o.step hx hy ah (Zh H);have aG:=LM.o.dig (k+h) (Zh H);have av:=LM.o.on0;have r:=jh2 hx hy;have au:k+h<n:=Zh H;have ag:=qh hS;have aW:=IntWalk.u64_in (m k) Zo;have aX:=IntWalk.u64_in (l h) Zo;have aY:=IntWalk.u64_in (p (k+h)) Zo;have aZ:=IntWalk.u64_in (m k*l h) Zo;have a0:=IntWalk.u64_in (m k*l h+p (k+h)) Zo;have a3:=IntWalk.u64_in (v+(m k*l h+p (k+h))) Zo;have t1:(v+(m k*l h+p (k+h))).tmod 1000000000=(v+(m k*l h+p (k+h)))%1000000000:=Int.tmod_eq_emod_of_nonneg hT.1;have t2:(v+(m k*l h+p (k+h))).tdiv 1000000000=(v+(m k*l h+p (k+h)))/1000000000:=Int.tdiv_eq_ediv_of_nonneg hT.1;have aJ:=IntWalk.u32_in ((v+(m k*l h+p (k+h)))%1000000000) Zo;have a4:=IntWalk.u64_in ((v+(m k*l h+p (k+h)))/1000000000) Zo;clear hc hS hT aG av r hx hy;dsimp only[uc];go_wp2;go_roundw
      case rel=>exact⟨h+1,Zo,by go_num,⟨_,_,rfl,ag.o,ZU LR.o _⟩,L1.o.oz,L2.o.oz,L3.o.oz,LG.o.sc⟩
      case measure=>simp[intOf];omega
     ·obtain rfl:h=aj:=Zo;obtain⟨vo,aQ⟩:∃ vo,wr.cell? ⟨V.heap.size,k+h,none⟩=some vo:=⟨_,LR.o.cell (i:=k+h) (Zh H)⟩;have au:k+h<n:=Zh H;have av:=LM.o.on0;have aJ:=IntWalk.u32_in v Zo;have ag:=qh<|LM.o.row au;go_wp2;go_roundw
      case rel=>exact⟨k+1,Zo,by go_num,⟨_,ag.o,ZU LR.o _⟩,L1.o.oz,L2.o.oz,L3.o.oz,LG.o.sc⟩
      case measure=>simp[intOf];omega
   ·obtain rfl:k=aq:=Zo;have D:=KM.o;have E:=KR.o
    have ht:(Jj o n).toNat=(z1*z2).natAbs:=by
     rw[D.sum,SX.o,SY.o,Int.natAbs_mul,<- Int.natCast_mul,Int.toNat_natCast]
    have OW:=qh<|Own.Xa E zj (λU hi=>by have:=D.dig U hi;omega);have aK:=Zw (!(decide (z1<0)==decide (z2<0))) (some ⟨V.heap.size,0,none⟩) n n o wr OW.o.rd D.dig Zo zj (λaw=>by cases aw);have hL:=JW D.dig
    have hD:=λU hi=>Zt D.dig U hi
    rw[ht,jfr] at aK;rw[ht] at hL hD;obtain⟨sB,ai⟩:=gn (decide (z1*z2<0));obtain⟨L,aa⟩:=gn (Ja (z1*z2).natAbs);rw[<- ai,<- aa] at aK;rw[<- aa] at hL;have HC:=qh aK;have HL:=qh hL;have HD:=qh hD;have aC:=qh ai;have aB:=qh aa;clear D E ht aK hL hD ai aa;go_wp2_with fail
    refine HC.o.mono ?_;rintro e w2 ⟨rfl,ab⟩;have j:=J3.o.bl ab;have K5:=qh j;have O2:=qh<|(OW.o.below ab).cut HL.o (λU hi=>(HD.o U (Zh HL)).symm);have G2:=qh<|W.o.trans (ab.mono W.o.size);have aH:=KG.o.size;obtain⟨aM,aN,aO,aP⟩:=j.all;clear j ab X K Y Z M C N O;go_wp2_with fail
    unfold VJ;rw[<- aC.o,<- aB.o];refine bodyPost_ret (Je rfl _ _ _ _ _ _ _ rfl (K5.o.set _ _) underlying30 rfl Zk) rfl ⟨_,rfl,?_,(λaw=>by cases aw),?_⟩
    ·exact((O2.o.oz).oz).mono aH
    ·exact(G2.o.sc).sc
end Limb
end Go.Proofs.YthacfgmdihcffaaGreatDoor
