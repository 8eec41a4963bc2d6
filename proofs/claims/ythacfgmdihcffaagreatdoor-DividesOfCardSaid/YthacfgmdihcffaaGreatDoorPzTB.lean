/-
  Plain lemmas on sums of products of letters: how they act, in which one way each is written, sums and products of them. No program in sight.
-/
import Derived.Test.YthacfgmdihcffaaGreatDoorPzTA
import Derived.BigRegion
import Derived.Lib.ItoaMem
set_option linter.unusedSimpArgs false
set_option linter.unusedVariables false
set_option maxHeartbeats 16000000
set_option maxRecDepth 100000
open Go.Proofs.Tryz
namespace Go.Proofs.YthacfgmdihcffaaGreatDoor
namespace Mono
open Go.RowKit
variable {B T k:Nat} {a b n:Nat->Int}
structure jda (B T:Nat) (a b n:Nat->Int) (w wr:World) (k:Nat):Prop where
 one:wr.rowIs B T 4 (cell a)
 two:wr.rowIs (B+1) T 4 (cell b)
 res:wr.rowIs (B+1+1) T 4 (cell Qy)
 out:wr.rowIs (B+1+1+1) T 4 (cell (part n k))
 below:Below B w wr
theorem jda.o {d wr:World} (c:jda B T a b n d wr k):wr.rowIs (B+1+1+1) T 4 (cell (part n k)):=c.out
theorem Uk (f:World) (c:TypeId) (a b n:Nat->Int):jda f.heap.size c a b n f
  ((((f.alloc (.cells (Qu a) c)).alloc (.cells (Qu b) c)).alloc (.cells #[.int .u16 0,.int .u16 0,.int .u16 0,.int .u16 0] c)).alloc (.cells #[.int .u16 0,.int .u16 0,.int .u16 0,.int .u16 0] c)) 0:=by
 refine⟨(((f.rowIs_alloc (Qu a) c (cell a) (four a)).alloc _).alloc _).alloc _,?_,?_,?_,?_⟩
 ·have d:=((World.rowIs_alloc (f.alloc (.cells (Qu a) c)) (Qu b) c (cell b) (four b)).alloc (.cells (Qu Qy) c)).alloc (.cells (Qu (part n 0)) c);rw[World.size_alloc] at d;exact d
 ·have d:=(World.rowIs_alloc ((f.alloc (.cells (Qu a) c)).alloc (.cells (Qu b) c)) (Qu Qy) c (cell Qy) (four Qy)).alloc (.cells (Qu (part n 0)) c);rw[World.size_alloc,World.size_alloc] at d;exact d
 ·have d:=World.rowIs_alloc (((f.alloc (.cells (Qu a) c)).alloc (.cells (Qu b) c)).alloc (.cells (Qu Qy) c)) (Qu (part n 0)) c (cell (part n 0)) (four (part n 0));rw[World.size_alloc,World.size_alloc,World.size_alloc] at d;exact d
 ·go_grown
theorem jda.drewN {f wr:World} (c:jda B T a b n f wr k) (d:Nat):jda B T a b n f (wr.drewN d) k :=
 ⟨c.one.of_block rfl,c.two.of_block rfl,c.res.of_block rfl,c.o.of_block rfl,below_drewN c.below d⟩
theorem jjf (n:Nat->Int) (k d:Nat):(if d=k then Value.int .u16 (n k) else cell (part n k) d)=cell (part n (k+1)) d:=by
 by_cases e:d=k
 ·subst e;simp[part]
 ·simp only[if_neg e,cell,part];by_cases c:d<k
  ·rw[if_pos c,if_pos Zo]
  ·rw[if_neg c,if_neg Zo]
theorem jda.step {d wr:World} (c:jda B T a b n d wr k):jda B T a b n d (wr.setCell ⟨B+1+1+1,k,none⟩ (.int .u16 (n k))) (k+1) :=
 ⟨c.one.setOther (by show _≠_;dsimp only;omega) _,c.two.setOther (by show _≠_;dsimp only;omega) _,c.res.setOther (by simp) _,(c.o.set k _).congr (λf _=>jjf n k f),c.below.setCell (by simp;omega) _⟩
theorem Q9 (a b:Nat->Int) (o:World) (s:Small a) (l:Small b) :
  Cl 157 #[mvf a,mvf b] o λe G=>e=.returned (.tuple #[mvf (mulM a b),.int .i64 (Ui a b)])/\Bl o G:=by
 obtain⟨f,N,m,i⟩:∃ f,f<=4/\(∀ k,k<f->a k+b k<=65535)/\(f<4->65535<a f+b f/\Yg a b=false)/\(f=4->Yg a b=true):=by
  by_cases u:Yg a b=true
  ·exact⟨4,Zo,(YR a b).1 u,λj=>absurd j Zo,λ_=>u⟩
  ·obtain⟨f,Y,y,Z⟩:=Xh (λk=>a k+b k<=65535) 4 (λj=>u ((YR a b).2 j));exact⟨f,Zo,y,λ_=>⟨Zo,by simpa using u⟩,λj=>absurd j Zo⟩
 have p:=qh s;clear s;have q:=qh l;clear l;have x:=qh m;clear m;have h:=qh i;clear i;have C:=Uk o 35 a b (λk=>a k+b k);go_enter func157,ntmps157;go_wp2;go_loopw [7] (λg wr=>∃ k:Nat,k<=f/\g=.int .i64 k/\jda o.heap.size 35 a b (λk=>a k+b k) o wr k) (λg _=>4-(intOf g).toNat)
 case atStart=>exact⟨0,Zo,rfl,C⟩
 case round =>
  obtain⟨k,hk,rfl,d⟩:=hrel;by_cases c:k<4
  ·have J:=d.one.cell c;have K:=d.two.cell c;have M:=d.o.frozen k;obtain⟨vo,L⟩:∃ v,wr.cell? ⟨o.heap.size+1+1+1,k,none⟩=some v:=⟨_,d.o.cell c⟩;have R:=(p.o k c).1;have S:=(p.o k c).2;have U:=(q.o k c).1;have V:=(q.o k c).2;have O:=IntWalk.i64_in (a k) Zo;have P:=IntWalk.i64_in (b k) Zo;have Q:=IntWalk.i64_in (a k+b k) Zo;by_cases t:k<f
   ·have W:=x.o k t;go_wp2;go_quiet (fail);go_wp2;go_roundw
    case rel=>exact⟨k+1,Zo,by go_num,(d.drewN _).step⟩
    case measure=>simp[intOf];omega
   ·obtain rfl:k=f:=Zo;have X:=(h.o.1 c).1;have w:=qh (show Ui a b=3 by simp[Ui,(h.o.1 c).2]);have H:=qh (show mulM a b=Qy by funext k;simp[mulM,(h.o.1 c).2,Qy]);have q0:=d.res.cell (i:=0) Zo;have D:=d.res.cell (i:=1) Zo;have E:=d.res.cell (i:=2) Zo;have F:=d.res.cell (i:=3) Zo
    have z:=λg=>d.res.frozen g
    have l:=d.below;have A:=d.o.lt;go_wp2;go_quiet (fail);go_wp2;refine bodyPost_ret (JO rfl _ _ _ _ _ _ _ rfl (set4 (d.drewN nq).res Qy) underlying35 rfl Zk) rfl ⟨by rw[w.o,H.o];rfl,?_⟩;have I:=(d.drewN nq).below;go_grown
  ·obtain rfl:k=4:=Zo;have r:Yg a b=true:=h.o.2 Zo;have w:=qh (show Ui a b=0 by simp[Ui,r]);have H:=qh<|show mulM a b=part (λk=>a k+b k) 4\/True from Or.inr trivial;have c0:=d.o.cell (i:=0) Zo;have c1:=d.o.cell (i:=1) Zo;have c2:=d.o.cell (i:=2) Zo;have c3:=d.o.cell (i:=3) Zo;have q0:=d.res.cell (i:=0) Zo;have D:=d.res.cell (i:=1) Zo;have E:=d.res.cell (i:=2) Zo;have F:=d.res.cell (i:=3) Zo
   have z:=λg=>d.res.frozen g
   have l:=d.below;have A:=d.o.lt;go_wp2;refine bodyPost_ret (JO rfl _ _ _ _ _ _ _ rfl (set4 d.res (part (λk=>a k+b k) 4)) underlying35 rfl Zk) rfl ⟨by rw[w.o];simp[Qu,part,mulM,r],?_⟩;go_grown
theorem je7 (a b:Nat->Int) (o:World) (s:Small a) (l:Small b) :
  Cl 154 #[mvf a,mvf b] o λe G=>e=.returned (.tuple #[mvf (Z6 a b),.bool (Yh a b)])/\Bl o G:=by
 obtain⟨f,N,m,i⟩:∃ f,f<=4/\(∀ k,k<f->b k<=a k)/\(f<4->a f<b f/\Yh a b=false)/\(f=4->Yh a b=true):=by
  by_cases u:Yh a b=true
  ·exact⟨4,Zo,(YS a b).1 u,λj=>absurd j Zo,λ_=>u⟩
  ·obtain⟨f,W,y,X⟩:=Xh (λk=>b k<=a k) 4 (λj=>u ((YS a b).2 j));exact⟨f,Zo,y,λ_=>⟨Zo,by simpa using u⟩,λj=>absurd j Zo⟩
 have p:=qh s;clear s;have q:=qh l;clear l;have x:=qh m;clear m;have h:=qh i;clear i;have C:=Uk o 35 a b (λk=>a k-b k);go_enter func154,ntmps154;go_wp2;go_loopw [7] (λg wr=>∃ k:Nat,k<=f/\g=.int .i64 k/\jda o.heap.size 35 a b (λk=>a k-b k) o wr k) (λg _=>4-(intOf g).toNat)
 case atStart=>exact⟨0,Zo,rfl,C⟩
 case round =>
  obtain⟨k,Y,rfl,d⟩:=hrel;by_cases c:k<4
  ·have J:=d.one.cell c;have K:=d.two.cell c;have M:=d.o.frozen k;obtain⟨Z,L⟩:∃ v,wr.cell? ⟨o.heap.size+1+1+1,k,none⟩=some v:=⟨_,d.o.cell c⟩;have P:=(p.o k c).1;have Q:=(p.o k c).2;have R:=(q.o k c).1;have S:=(q.o k c).2;by_cases t:k<f
   ·have U:=x.o k t;have O:=IntWalk.u16_in (a k-b k) Zo;go_wp2;go_quiet (fail);go_wp2;refine wp_region_still_tail 9 Zk Zk ?_;simp only[zx,zy,zv,zw,World.drew_eq,World.drew_drewN]
    repeat still_step
    try refine wpStill_nil ?_
    go_wp2;go_roundw
    case rel=>exact⟨k+1,Zo,by go_num,(d.drewN _).step⟩
    case measure=>simp[intOf];omega
   ·obtain rfl:k=f:=Zo;have V:=(h.o.1 c).1;have w:=qh (h.o.1 c).2;have H:=qh (show Z6 a b=Qy by funext k;simp[Z6,(h.o.1 c).2,Qy]);have q0:=d.res.cell (i:=0) Zo;have D:=d.res.cell (i:=1) Zo;have E:=d.res.cell (i:=2) Zo;have F:=d.res.cell (i:=3) Zo
    have z:=λg=>d.res.frozen g
    have l:=d.below;have A:=d.o.lt;go_wp2;go_quiet (fail);go_wp2;refine bodyPost_ret (JO rfl _ _ _ _ _ _ _ rfl (set4 (d.drewN nq).res Qy) underlying35 rfl Zk) rfl ⟨by rw[w.o,H.o];rfl,?_⟩;have I:=(d.drewN nq).below;go_grown
  ·obtain rfl:k=4:=Zo;have r:Yh a b=true:=h.o.2 Zo;have w:=qh r;have H:=qh<|show Z6 a b=part (λk=>a k-b k) 4\/True from Or.inr trivial;have c0:=d.o.cell (i:=0) Zo;have c1:=d.o.cell (i:=1) Zo;have c2:=d.o.cell (i:=2) Zo;have c3:=d.o.cell (i:=3) Zo;have q0:=d.res.cell (i:=0) Zo;have D:=d.res.cell (i:=1) Zo;have E:=d.res.cell (i:=2) Zo;have F:=d.res.cell (i:=3) Zo
   have z:=λg=>d.res.frozen g
   have l:=d.below;have A:=d.o.lt;go_wp2;refine bodyPost_ret (JO rfl _ _ _ _ _ _ _ rfl (set4 d.res (part (λk=>a k-b k) 4)) underlying35 rfl Zk) rfl ⟨by rw[w.o];simp[Qu,part,Z6,r],?_⟩;go_grown
theorem JX (a:Nat->Int) (f:World) (c:Small a) :
  Cl 107 #[mvf a] f λe d=>e=.returned (.int .i64 (JF a))/\Bl f d:=by
 obtain⟨g,q0⟩:=c 0 Zo;obtain⟨h,l⟩:=c 1 Zo;obtain⟨i,m⟩:=c 2 Zo;obtain⟨j,o⟩:=c 3 Zo;clear c;go_enter func107,ntmps107;go_wp2;go_ret;exact⟨rfl,by go_grown⟩
end Mono
namespace Book
open Go.RowKit Go.Sort
theorem je8 (b:Nat) (c:World) (g:c.cell? ⟨b,1,none⟩=some (.slice none 0 0)):Cl 45 #[.pointer (some ⟨b,0,none⟩)] c λe d=>(∃ v,e=.returned v)/\d=c:=by
 go_enter func45,ntmps45;go_wp2;go_loopw [2] (λf wr=>f=.int .i64 0/\wr=c) (λ_ _=>0)
 case atStart=>exact⟨rfl,rfl⟩
 case round =>
  obtain⟨rfl,rfl⟩:=hrel;go_wp2
  (try simp only[Exit.inBlock,Exit.then])
  refine bodyPost_end (results_none rfl _ _ _) rfl ?_;exact⟨⟨_,rfl⟩,rfl⟩
theorem je9 (b:Nat) (c:World) (g:c.cell? ⟨b,1,none⟩=some (.slice none 0 0)):Cl 57 #[.pointer (some ⟨b,0,none⟩)] c λe d=>(∃ v,e=.returned v)/\d=c:=by
 go_enter func57,ntmps57;go_wp2;go_loopw [2] (λf wr=>f=.int .i64 0/\wr=c) (λ_ _=>0)
 case atStart=>exact⟨rfl,rfl⟩
 case round =>
  obtain⟨rfl,rfl⟩:=hrel;go_wp2
  (try simp only[Exit.inBlock,Exit.then])
  refine bodyPost_end (results_none rfl _ _ _) rfl ?_;exact⟨⟨_,rfl⟩,rfl⟩
theorem jfa (b:Nat) (c:World) (g:c.cell? ⟨b,1,none⟩=some (.slice none 0 0)):Cl 69 #[.pointer (some ⟨b,0,none⟩)] c λe d=>e=.returned (.bool true)/\d=c:=by
 go_enter func69,ntmps69;go_wp2;go_loopw [3] (λf wr=>f=.int .i64 0/\wr=c) (λ_ _=>0)
 case atStart=>exact⟨rfl,rfl⟩
 case round =>
  obtain⟨rfl,rfl⟩:=hrel;go_wp2;go_ret;exact⟨rfl,rfl⟩
theorem jfb (b:Nat) (c:World) (g:c.cell? ⟨b,3,none⟩=some (.slice none 0 0)):Cl 47 #[.pointer (some ⟨b,0,none⟩)] c λe d=>(∃ v,e=.returned v)/\d=c:=by
 go_enter func47,ntmps47;go_wp2;go_loopw [2] (λf wr=>f=.int .i64 0/\wr=c) (λ_ _=>0)
 case atStart=>exact⟨rfl,rfl⟩
 case round =>
  obtain⟨rfl,rfl⟩:=hrel;go_wp2
  (try simp only[Exit.inBlock,Exit.then])
  refine bodyPost_end (results_none rfl _ _ _) rfl ?_;exact⟨⟨_,rfl⟩,rfl⟩
theorem jfc (b:Nat) (c:World) (g:c.cell? ⟨b,3,none⟩=some (.slice none 0 0)):Cl 59 #[.pointer (some ⟨b,0,none⟩)] c λe d=>(∃ v,e=.returned v)/\d=c:=by
 go_enter func59,ntmps59;go_wp2;go_loopw [2] (λf wr=>f=.int .i64 0/\wr=c) (λ_ _=>0)
 case atStart=>exact⟨rfl,rfl⟩
 case round =>
  obtain⟨rfl,rfl⟩:=hrel;go_wp2
  (try simp only[Exit.inBlock,Exit.then])
  refine bodyPost_end (results_none rfl _ _ _) rfl ?_;exact⟨⟨_,rfl⟩,rfl⟩
theorem jfd (b:Nat) (c:World) (g:c.cell? ⟨b,3,none⟩=some (.slice none 0 0)):Cl 71 #[.pointer (some ⟨b,0,none⟩)] c λe d=>e=.returned (.bool true)/\d=c:=by
 go_enter func71,ntmps71;go_wp2;go_loopw [3] (λf wr=>f=.int .i64 0/\wr=c) (λ_ _=>0)
 case atStart=>exact⟨rfl,rfl⟩
 case round =>
  obtain⟨rfl,rfl⟩:=hrel;go_wp2;go_ret;exact⟨rfl,rfl⟩
theorem jbi (b:Nat) (c:World) (g:c.cell? ⟨b,4,none⟩=some (.slice none 0 0)):Cl 48 #[.pointer (some ⟨b,0,none⟩)] c λe d=>(∃ v,e=.returned v)/\d=c:=by
 go_enter func48,ntmps48;go_wp2;go_loopw [2] (λf wr=>f=.int .i64 0/\wr=c) (λ_ _=>0)
 case atStart=>exact⟨rfl,rfl⟩
 case round =>
  obtain⟨rfl,rfl⟩:=hrel;go_wp2
  (try simp only[Exit.inBlock,Exit.then])
  refine bodyPost_end (results_none rfl _ _ _) rfl ?_;exact⟨⟨_,rfl⟩,rfl⟩
theorem jbj (b:Nat) (c:World) (g:c.cell? ⟨b,4,none⟩=some (.slice none 0 0)):Cl 60 #[.pointer (some ⟨b,0,none⟩)] c λe d=>(∃ v,e=.returned v)/\d=c:=by
 go_enter func60,ntmps60;go_wp2;go_loopw [2] (λf wr=>f=.int .i64 0/\wr=c) (λ_ _=>0)
 case atStart=>exact⟨rfl,rfl⟩
 case round =>
  obtain⟨rfl,rfl⟩:=hrel;go_wp2
  (try simp only[Exit.inBlock,Exit.then])
  refine bodyPost_end (results_none rfl _ _ _) rfl ?_;exact⟨⟨_,rfl⟩,rfl⟩
theorem jbk (b:Nat) (c:World) (g:c.cell? ⟨b,4,none⟩=some (.slice none 0 0)):Cl 72 #[.pointer (some ⟨b,0,none⟩)] c λe d=>e=.returned (.bool true)/\d=c:=by
 go_enter func72,ntmps72;go_wp2;go_loopw [3] (λf wr=>f=.int .i64 0/\wr=c) (λ_ _=>0)
 case atStart=>exact⟨rfl,rfl⟩
 case round =>
  obtain⟨rfl,rfl⟩:=hrel;go_wp2;go_ret;exact⟨rfl,rfl⟩
theorem jih (b:Nat) (c:World) (g:c.cell? ⟨b,5,none⟩=some (.slice none 0 0)):Cl 49 #[.pointer (some ⟨b,0,none⟩)] c λe d=>(∃ v,e=.returned v)/\d=c:=by
 go_enter func49,ntmps49;go_wp2;go_loopw [2] (λf wr=>f=.int .i64 0/\wr=c) (λ_ _=>0)
 case atStart=>exact⟨rfl,rfl⟩
 case round =>
  obtain⟨rfl,rfl⟩:=hrel;go_wp2
  (try simp only[Exit.inBlock,Exit.then])
  refine bodyPost_end (results_none rfl _ _ _) rfl ?_;exact⟨⟨_,rfl⟩,rfl⟩
theorem jii (b:Nat) (c:World) (g:c.cell? ⟨b,5,none⟩=some (.slice none 0 0)):Cl 61 #[.pointer (some ⟨b,0,none⟩)] c λe d=>(∃ v,e=.returned v)/\d=c:=by
 go_enter func61,ntmps61;go_wp2;go_loopw [2] (λf wr=>f=.int .i64 0/\wr=c) (λ_ _=>0)
 case atStart=>exact⟨rfl,rfl⟩
 case round =>
  obtain⟨rfl,rfl⟩:=hrel;go_wp2
  (try simp only[Exit.inBlock,Exit.then])
  refine bodyPost_end (results_none rfl _ _ _) rfl ?_;exact⟨⟨_,rfl⟩,rfl⟩
theorem jij (b:Nat) (c:World) (g:c.cell? ⟨b,5,none⟩=some (.slice none 0 0)):Cl 73 #[.pointer (some ⟨b,0,none⟩)] c λe d=>e=.returned (.bool true)/\d=c:=by
 go_enter func73,ntmps73;go_wp2;go_loopw [3] (λf wr=>f=.int .i64 0/\wr=c) (λ_ _=>0)
 case atStart=>exact⟨rfl,rfl⟩
 case round =>
  obtain⟨rfl,rfl⟩:=hrel;go_wp2;go_ret;exact⟨rfl,rfl⟩
theorem Ul (b:Nat) (c:World) (g:c.cell? ⟨b,7,none⟩=some (.slice none 0 0)):Cl 51 #[.pointer (some ⟨b,0,none⟩)] c λe d=>(∃ v,e=.returned v)/\d=c:=by
 go_enter func51,ntmps51;go_wp2;go_loopw [2] (λf wr=>f=.int .i64 0/\wr=c) (λ_ _=>0)
 case atStart=>exact⟨rfl,rfl⟩
 case round =>
  obtain⟨rfl,rfl⟩:=hrel;go_wp2
  (try simp only[Exit.inBlock,Exit.then])
  refine bodyPost_end (results_none rfl _ _ _) rfl ?_;exact⟨⟨_,rfl⟩,rfl⟩
theorem Um (b:Nat) (c:World) (g:c.cell? ⟨b,7,none⟩=some (.slice none 0 0)):Cl 63 #[.pointer (some ⟨b,0,none⟩)] c λe d=>(∃ v,e=.returned v)/\d=c:=by
 go_enter func63,ntmps63;go_wp2;go_loopw [2] (λf wr=>f=.int .i64 0/\wr=c) (λ_ _=>0)
 case atStart=>exact⟨rfl,rfl⟩
 case round =>
  obtain⟨rfl,rfl⟩:=hrel;go_wp2
  (try simp only[Exit.inBlock,Exit.then])
  refine bodyPost_end (results_none rfl _ _ _) rfl ?_;exact⟨⟨_,rfl⟩,rfl⟩
theorem Un (b:Nat) (c:World) (g:c.cell? ⟨b,7,none⟩=some (.slice none 0 0)):Cl 75 #[.pointer (some ⟨b,0,none⟩)] c λe d=>e=.returned (.bool true)/\d=c:=by
 go_enter func75,ntmps75;go_wp2;go_loopw [3] (λf wr=>f=.int .i64 0/\wr=c) (λ_ _=>0)
 case atStart=>exact⟨rfl,rfl⟩
 case round =>
  obtain⟨rfl,rfl⟩:=hrel;go_wp2;go_ret;exact⟨rfl,rfl⟩
theorem jfe (b:Nat) (c:World) (g:c.cell? ⟨b,8,none⟩=some (.slice none 0 0)):Cl 52 #[.pointer (some ⟨b,0,none⟩)] c λe d=>(∃ v,e=.returned v)/\d=c:=by
 go_enter func52,ntmps52;go_wp2;go_loopw [2] (λf wr=>f=.int .i64 0/\wr=c) (λ_ _=>0)
 case atStart=>exact⟨rfl,rfl⟩
 case round =>
  obtain⟨rfl,rfl⟩:=hrel;go_wp2
  (try simp only[Exit.inBlock,Exit.then])
  refine bodyPost_end (results_none rfl _ _ _) rfl ?_;exact⟨⟨_,rfl⟩,rfl⟩
theorem jff (b:Nat) (c:World) (g:c.cell? ⟨b,8,none⟩=some (.slice none 0 0)):Cl 64 #[.pointer (some ⟨b,0,none⟩)] c λe d=>(∃ v,e=.returned v)/\d=c:=by
 go_enter func64,ntmps64;go_wp2;go_loopw [2] (λf wr=>f=.int .i64 0/\wr=c) (λ_ _=>0)
 case atStart=>exact⟨rfl,rfl⟩
 case round =>
  obtain⟨rfl,rfl⟩:=hrel;go_wp2
  (try simp only[Exit.inBlock,Exit.then])
  refine bodyPost_end (results_none rfl _ _ _) rfl ?_;exact⟨⟨_,rfl⟩,rfl⟩
theorem jfg (b:Nat) (c:World) (g:c.cell? ⟨b,8,none⟩=some (.slice none 0 0)):Cl 76 #[.pointer (some ⟨b,0,none⟩)] c λe d=>e=.returned (.bool true)/\d=c:=by
 go_enter func76,ntmps76;go_wp2;go_loopw [3] (λf wr=>f=.int .i64 0/\wr=c) (λ_ _=>0)
 case atStart=>exact⟨rfl,rfl⟩
 case round =>
  obtain⟨rfl,rfl⟩:=hrel;go_wp2;go_ret;exact⟨rfl,rfl⟩
theorem jfh (b:Nat) (c:World) (g:c.cell? ⟨b,9,none⟩=some (.slice none 0 0)):Cl 53 #[.pointer (some ⟨b,0,none⟩)] c λe d=>(∃ v,e=.returned v)/\d=c:=by
 go_enter func53,ntmps53;go_wp2;go_loopw [2] (λf wr=>f=.int .i64 0/\wr=c) (λ_ _=>0)
 case atStart=>exact⟨rfl,rfl⟩
 case round =>
  obtain⟨rfl,rfl⟩:=hrel;go_wp2
  (try simp only[Exit.inBlock,Exit.then])
  refine bodyPost_end (results_none rfl _ _ _) rfl ?_;exact⟨⟨_,rfl⟩,rfl⟩
theorem jfi (b:Nat) (c:World) (g:c.cell? ⟨b,9,none⟩=some (.slice none 0 0)):Cl 65 #[.pointer (some ⟨b,0,none⟩)] c λe d=>(∃ v,e=.returned v)/\d=c:=by
 go_enter func65,ntmps65;go_wp2;go_loopw [2] (λf wr=>f=.int .i64 0/\wr=c) (λ_ _=>0)
 case atStart=>exact⟨rfl,rfl⟩
 case round =>
  obtain⟨rfl,rfl⟩:=hrel;go_wp2
  (try simp only[Exit.inBlock,Exit.then])
  refine bodyPost_end (results_none rfl _ _ _) rfl ?_;exact⟨⟨_,rfl⟩,rfl⟩
theorem jfj (b:Nat) (c:World) (g:c.cell? ⟨b,9,none⟩=some (.slice none 0 0)):Cl 77 #[.pointer (some ⟨b,0,none⟩)] c λe d=>e=.returned (.bool true)/\d=c:=by
 go_enter func77,ntmps77;go_wp2;go_loopw [3] (λf wr=>f=.int .i64 0/\wr=c) (λ_ _=>0)
 case atStart=>exact⟨rfl,rfl⟩
 case round =>
  obtain⟨rfl,rfl⟩:=hrel;go_wp2;go_ret;exact⟨rfl,rfl⟩
theorem jbl (b:Nat) (c:World) (g:c.cell? ⟨b,10,none⟩=some (.slice none 0 0)):Cl 54 #[.pointer (some ⟨b,0,none⟩)] c λe d=>(∃ v,e=.returned v)/\d=c:=by
 go_enter func54,ntmps54;go_wp2;go_loopw [2] (λf wr=>f=.int .i64 0/\wr=c) (λ_ _=>0)
 case atStart=>exact⟨rfl,rfl⟩
 case round =>
  obtain⟨rfl,rfl⟩:=hrel;go_wp2
  (try simp only[Exit.inBlock,Exit.then])
  refine bodyPost_end (results_none rfl _ _ _) rfl ?_;exact⟨⟨_,rfl⟩,rfl⟩
theorem jbm (b:Nat) (c:World) (g:c.cell? ⟨b,10,none⟩=some (.slice none 0 0)):Cl 66 #[.pointer (some ⟨b,0,none⟩)] c λe d=>(∃ v,e=.returned v)/\d=c:=by
 go_enter func66,ntmps66;go_wp2;go_loopw [2] (λf wr=>f=.int .i64 0/\wr=c) (λ_ _=>0)
 case atStart=>exact⟨rfl,rfl⟩
 case round =>
  obtain⟨rfl,rfl⟩:=hrel;go_wp2
  (try simp only[Exit.inBlock,Exit.then])
  refine bodyPost_end (results_none rfl _ _ _) rfl ?_;exact⟨⟨_,rfl⟩,rfl⟩
theorem jbn (b:Nat) (c:World) (g:c.cell? ⟨b,10,none⟩=some (.slice none 0 0)):Cl 78 #[.pointer (some ⟨b,0,none⟩)] c λe d=>e=.returned (.bool true)/\d=c:=by
 go_enter func78,ntmps78;go_wp2;go_loopw [3] (λf wr=>f=.int .i64 0/\wr=c) (λ_ _=>0)
 case atStart=>exact⟨rfl,rfl⟩
 case round =>
  obtain⟨rfl,rfl⟩:=hrel;go_wp2;go_ret;exact⟨rfl,rfl⟩
theorem jbo (b:Nat) (c:World) (g:c.cell? ⟨b,11,none⟩=some (.slice none 0 0)):Cl 55 #[.pointer (some ⟨b,0,none⟩)] c λe d=>(∃ v,e=.returned v)/\d=c:=by
 go_enter func55,ntmps55;go_wp2;go_loopw [2] (λf wr=>f=.int .i64 0/\wr=c) (λ_ _=>0)
 case atStart=>exact⟨rfl,rfl⟩
 case round =>
  obtain⟨rfl,rfl⟩:=hrel;go_wp2
  (try simp only[Exit.inBlock,Exit.then])
  refine bodyPost_end (results_none rfl _ _ _) rfl ?_;exact⟨⟨_,rfl⟩,rfl⟩
theorem jbp (b:Nat) (c:World) (g:c.cell? ⟨b,11,none⟩=some (.slice none 0 0)):Cl 67 #[.pointer (some ⟨b,0,none⟩)] c λe d=>(∃ v,e=.returned v)/\d=c:=by
 go_enter func67,ntmps67;go_wp2;go_loopw [2] (λf wr=>f=.int .i64 0/\wr=c) (λ_ _=>0)
 case atStart=>exact⟨rfl,rfl⟩
 case round =>
  obtain⟨rfl,rfl⟩:=hrel;go_wp2
  (try simp only[Exit.inBlock,Exit.then])
  refine bodyPost_end (results_none rfl _ _ _) rfl ?_;exact⟨⟨_,rfl⟩,rfl⟩
theorem jbq (b:Nat) (c:World) (g:c.cell? ⟨b,11,none⟩=some (.slice none 0 0)):Cl 79 #[.pointer (some ⟨b,0,none⟩)] c λe d=>e=.returned (.bool true)/\d=c:=by
 go_enter func79,ntmps79;go_wp2;go_loopw [3] (λf wr=>f=.int .i64 0/\wr=c) (λ_ _=>0)
 case atStart=>exact⟨rfl,rfl⟩
 case round =>
  obtain⟨rfl,rfl⟩:=hrel;go_wp2;go_ret;exact⟨rfl,rfl⟩
theorem jbr (b:Nat) (c:World) (g:c.cell? ⟨b,12,none⟩=some (.slice none 0 0)):Cl 56 #[.pointer (some ⟨b,0,none⟩)] c λe d=>(∃ v,e=.returned v)/\d=c:=by
 go_enter func56,ntmps56;go_wp2;go_loopw [2] (λf wr=>f=.int .i64 0/\wr=c) (λ_ _=>0)
 case atStart=>exact⟨rfl,rfl⟩
 case round =>
  obtain⟨rfl,rfl⟩:=hrel;go_wp2
  (try simp only[Exit.inBlock,Exit.then])
  refine bodyPost_end (results_none rfl _ _ _) rfl ?_;exact⟨⟨_,rfl⟩,rfl⟩
theorem jbs (b:Nat) (c:World) (g:c.cell? ⟨b,12,none⟩=some (.slice none 0 0)):Cl 68 #[.pointer (some ⟨b,0,none⟩)] c λe d=>(∃ v,e=.returned v)/\d=c:=by
 go_enter func68,ntmps68;go_wp2;go_loopw [2] (λf wr=>f=.int .i64 0/\wr=c) (λ_ _=>0)
 case atStart=>exact⟨rfl,rfl⟩
 case round =>
  obtain⟨rfl,rfl⟩:=hrel;go_wp2
  (try simp only[Exit.inBlock,Exit.then])
  refine bodyPost_end (results_none rfl _ _ _) rfl ?_;exact⟨⟨_,rfl⟩,rfl⟩
theorem jbt (b:Nat) (c:World) (g:c.cell? ⟨b,12,none⟩=some (.slice none 0 0)):Cl 80 #[.pointer (some ⟨b,0,none⟩)] c λe d=>e=.returned (.bool true)/\d=c:=by
 go_enter func80,ntmps80;go_wp2;go_loopw [3] (λf wr=>f=.int .i64 0/\wr=c) (λ_ _=>0)
 case atStart=>exact⟨rfl,rfl⟩
 case round =>
  obtain⟨rfl,rfl⟩:=hrel;go_wp2;go_ret;exact⟨rfl,rfl⟩
end Book
namespace Limb
open Go.RowKit Go.Sort
theorem jjg (g h:Int) (i:World) :
  Cl 238 #[.int .u32 g,.int .u32 h] i λe f=>e=.returned (.int .i64 (Js g h))/\f=i:=by
 rcases Int.lt_trichotomy g h with c | c | c
 ·have d:=qh<|JK c;go_enter func238,ntmps238;go_wp2;go_ret;exact⟨by rw[d.o];rfl,rfl⟩
 ·have d:=qh<|J7 c;subst c;go_enter func238,ntmps238;go_wp2;go_ret;exact⟨by rw[d.o];rfl,rfl⟩
 ·have d:=qh<|JS c;go_enter func238,ntmps238;go_wp2;go_ret;exact⟨by rw[d.o];rfl,rfl⟩
theorem ZJ (g h:Int) (i:World) :
  Cl 198 #[.int .i64 g,.int .i64 h] i λe f=>e=.returned (.int .i64 (Js g h))/\f=i:=by
 rcases Int.lt_trichotomy g h with c | c | c
 ·have d:=qh<|JK c;go_enter func198,ntmps198;go_wp2;go_ret;exact⟨by rw[d.o];rfl,rfl⟩
 ·have d:=qh<|J7 c;subst c;go_enter func198,ntmps198;go_wp2;go_ret;exact⟨by rw[d.o];rfl,rfl⟩
 ·have d:=qh<|JS c;go_enter func198,ntmps198;go_wp2;go_ret;exact⟨by rw[d.o];rfl,rfl⟩
theorem YU (a:Option Addr) (n f:Nat) (o:Nat->Int) (d:Nat) (j:World) (h:Rd j a n o) (q:n<=1000000000) (p:d<=1000000000) :
  Cl 209 #[.slice a n f,.int .i64 d] j λe l=>e=.returned (.int .i64 (part o n d))/\l=j:=by
 by_cases c:d<n
 ·have i:=qh (show part o n d=o d by unfold part;rw[if_pos c]);obtain⟨b,off,rfl,g⟩:=h.cells Zo;have c1:=g d c;have r:=h.rng d c;have m:=IntWalk.i64_in (o d) Zo;clear g h;go_enter func209,ntmps209;go_wp2;go_ret;exact⟨by rw[i.o];rfl,rfl⟩
 ·have i:=qh (show part o n d=0 by unfold part;rw[if_neg c]);clear h;go_enter func209,ntmps209;go_wp2;go_ret;exact⟨by rw[i.o];rfl,rfl⟩
end Limb
namespace Limb
variable {by' rest:Int}
theorem div_step {Q o:Int} (c:0<by') (d:0<=rest/\rest<by'):(o+1000000000*(by' * Q+rest))/by'=(rest*1000000000+o)/by' + 1000000000*Q/\(o+1000000000*(by' * Q+rest))%by'=(rest*1000000000+o)%by':=by
 have e:o+1000000000*(by' * Q+rest)=(rest*1000000000+o)+by' * (1000000000*Q):=by
  have:by' * (1000000000*Q)=1000000000*(by' * Q):=by rw[<- Int.mul_assoc,Int.mul_comm by',Int.mul_assoc]
  rw[this,Int.mul_add];omega
 rw[e];exact⟨Int.add_mul_ediv_left _ _ Zo,Int.add_mul_emod_self_left _ _ _⟩
theorem jdb {o:Int} (c:0<by') (f:0<=rest/\rest<by') (d:0<=o/\o<1000000000):0<=(rest*1000000000+o)/by'/\(rest*1000000000+o)/by' < 1000000000:=by
 refine⟨Int.ediv_nonneg Zo Zo,Int.ediv_lt_of_lt_mul c ?_⟩;have:rest*1000000000<=(by' - 1)*1000000000:=Int.mul_le_mul_of_nonneg_right Zo Zo;rw[Int.mul_comm];omega
structure Q6 (o:Nat->Int) (n:Nat) (by':Int) (i:Nat) (p:Nat->Int) (rest:Int):Prop where
 quo:Jj (λk=>p (i+k)) (n-i)=Jj (λk=>o (i+k)) (n-i)/by'
 rst:rest=Jj (λk=>o (i+k)) (n-i)%by'
 dig:Dig p n
theorem Q6.start (o:Nat->Int) (n:Nat) (c:Int):Q6 o n c n (λ_=>0) 0:=by
 refine⟨?_,?_,λd _=>⟨Zo,Zo⟩⟩
 ·rw[Nat.sub_self,Jj,Jj];simp
 ·rw[Nat.sub_self,Jj];simp
theorem Q6.bd {o g:Nat->Int} {n f:Nat} (d:Q6 o n by' f g rest) (c:0<by'):0<=rest/\rest<by':=by
 rw[d.rst];exact⟨Int.emod_nonneg _ Zo,Int.emod_lt_of_pos _ c⟩
theorem Q6.step {o p:Nat->Int} {n c:Nat} (q:Q6 o n by' (c+1) p rest) (g:0<by') (s:Dig o n) (t:c<n):Q6 o n by' c (upd p c ((rest*1000000000+o c)/by')) ((rest*1000000000+o c)%by'):=by
 have j:=q.bd g
 have h:∀ f:Nat->Int,Jj (λk=>f (c+k)) (n-c)=f c+1000000000*Jj (λk=>f (c+1+k)) (n-(c+1)):=by
  intro f;rw[show n-c=(n-(c+1))+1 by omega,Z5]
  have e:(λk=>f (c+(k+1)))=λk=>f (c+1+k):=by funext k;rw[show c+(k+1)=c+1+k by omega]
  rw[e];rfl
 have l:=q.quo;have m:=q.rst
 generalize i:Jj (λk=>o (c+1+k)) (n-(c+1))=A at l m
 have d:A=by' * (A/by')+rest:=by rw[m];exact(Int.mul_ediv_add_emod A by').symm
 obtain⟨r,d2⟩:=div_step (o:=o c) (Q:=A/by') g j;refine⟨?_,?_,Y6 q.dig c (jdb g j (s c t))⟩
 ·rw[h o,h (upd p c _),i]
  have e:(λk=>upd p c ((rest*1000000000+o c)/by') (c+1+k))=λk=>p (c+1+k):=by funext k;exact upd_ne _ _ Zo
  rw[e,l,upd_same]
  conv=>rhs;rw[d]
  rw[r]
 ·rw[h o,i]
  conv=>rhs;rw[d]
  rw[d2]
theorem Q6.done {o h:Nat->Int} {n:Nat} (g:Q6 o n by' 0 h rest):Jj h n=Jj o n/by'/\rest=Jj o n%by':=by
 have e:∀ f:Nat->Int,(λk=>f (0+k))=f:=λf=>by funext k;rw[Nat.zero_add]
 have c:=g.quo;have d:=g.rst;rw[e,e] at c;rw[e] at d;exact⟨c,d⟩
end Limb
namespace Mono
open Go.RowKit Go.Sort
theorem YV {g:World} {b:Nat} {i:TypeId} {f:Nat->Value} (h:g.rowIs b i 4 f) :
  (∀ d c,(grow (redrawn g d) c).cell? ⟨b,0,none⟩=some (f 0))/\(∀ d c,(grow (redrawn g d) c).cell? ⟨b,1,none⟩=some (f 1)) /\
  (∀ d c,(grow (redrawn g d) c).cell? ⟨b,2,none⟩=some (f 2))/\(∀ d c,(grow (redrawn g d) c).cell? ⟨b,3,none⟩=some (f 3)) :=
 ⟨cell_regrown (h.cell Zo),cell_regrown (h.cell Zo),cell_regrown (h.cell Zo),cell_regrown (h.cell Zo)⟩
theorem ZK {c:World} {b:Nat} {g:TypeId} {f:Nat->Value} (d:c.rowIs b g 4 f) :
  c.cell? ⟨b,0,none⟩=some (f 0)/\c.cell? ⟨b,1,none⟩=some (f 1)/\c.cell? ⟨b,2,none⟩=some (f 2)/\c.cell? ⟨b,3,none⟩=some (f 3) :=
 ⟨d.cell Zo,d.cell Zo,d.cell Zo,d.cell Zo⟩
theorem Ju {h b:Nat} {i d:World} {j:TypeId} {f:Nat->Value} (l:i.rowIs b j 4 f) (g:Below h i d) (c:b<h):d.rowIs b j 4 f:=l.of_block (g.block _ c)
theorem rowNew (c:World) (d:TypeId) (a:Nat->Int):(c.alloc (.cells (Qu a) d)).rowIs c.heap.size d 4 (cell a):=c.rowIs_alloc (Qu a) d (cell a) (four a)
theorem boxes (d:World) (c:TypeId) (a b:Nat->Int):((d.alloc (.cells (Qu a) c)).alloc (.cells (Qu b) c)).rowIs d.heap.size c 4 (cell a)/\((d.alloc (.cells (Qu a) c)).alloc (.cells (Qu b) c)).rowIs (d.heap.size+1) c 4 (cell b):=by
 refine⟨(rowNew d c a).alloc _,?_⟩;have f:=rowNew (d.alloc (.cells (Qu a) c)) c b;rw[World.size_alloc] at f;exact f
theorem eqIn16 (d:Nat) (a b:Int) (c:World):(Op.equalIn (d+1) 33 (.int .u16 a) (.int .u16 b)).run prog c=.ok (a==b) c :=
 run_equalIn_int c d 33 .u16 .u16 a b underlying33
theorem part0 (c d f g:Int) (h:World):(Go.part 33 #[Value.int .u16 c,.int .u16 d,.int .u16 f,.int .u16 g] 0).run prog h=.ok (.int .u16 c) h:=by kernel_rfl
theorem part1 (d c f g:Int) (h:World):(Go.part 33 #[Value.int .u16 d,.int .u16 c,.int .u16 f,.int .u16 g] 1).run prog h=.ok (.int .u16 c) h:=by kernel_rfl
theorem part2 (d f c g:Int) (h:World):(Go.part 33 #[Value.int .u16 d,.int .u16 f,.int .u16 c,.int .u16 g] 2).run prog h=.ok (.int .u16 c) h:=by kernel_rfl
theorem part3 (d f g c:Int) (h:World):(Go.part 33 #[Value.int .u16 d,.int .u16 f,.int .u16 g,.int .u16 c] 3).run prog h=.ok (.int .u16 c) h:=by kernel_rfl
theorem eqIn4 (t:Nat) (c d f g h i j l:Int) (m:World):(Op.equalIn (t+2) 35 (mv c d f g) (mv h i j l)).run prog m=.ok (c==h&&(d==i&&(f==j&&g==l))) m:=by
 have s:∀ m,(sizeOf 33).run prog m=.ok 1 m:=λ_=>Zk
 rw[Op.equalIn];simp only[Sem.run_bind,run_underlying underlying35,Result.andThen_ok,s];simp only[Std.Legacy.Range.forIn_eq_forIn_range',Std.Legacy.Range.size,Nat.sub_zero,Nat.add_sub_cancel,Nat.div_one,List.range'_succ,List.range'_zero,List.forIn_cons,List.forIn_nil];simp only[Sem.run_bind,Nat.mul_one,Nat.zero_add,Nat.reduceAdd,part0,eqIn16,Result.andThen_ok]
 by_cases o:c=h <;> by_cases p:d=i <;> by_cases q:f=j <;> by_cases r:g=l <;> simp[o,p,q,r,Sem.run_bind,part1,part2,part3,eqIn16]
@[go_sem] theorem jik (c d f g h i j l:Int) (m:World):(Op.equalIn 10000 35 (mv c d f g) (mv h i j l)).run prog m=.ok (c==h&&(d==i&&(f==j&&g==l))) m :=
 eqIn4 9998 c d f g h i j l m
end Mono
namespace Limb
open Go.RowKit Go.Sort
theorem XE (c d:Nat) (a b:Option Addr) (G H:Nat) (D:World) (y:Rd D a (Ja c) (dgi c)) (z:Rd D b (Ja d) (dgi d)) (R:Ja c<=1000000000) (S:Ja d<=1000000000) :
  Cl 206 #[.slice a (Ja c) G,.slice b (Ja d) H] D λe g=>e=.returned (.int .i64 (Js c d))/\∃ K,g=D.drewN K:=by
 rcases Nat.lt_trichotomy (Ja c) (Ja d) with s | s | s
 ·have w:=qh<|show Js c d = -1 from JK (by have:=Y5 s;omega);have i:=qh<|show Js (Ja c:Int) (Ja d) = -1 from JK Zo;go_enter func206,ntmps206;go_wp2_with fail
  refine(ZJ _ _ _).mono ?_;rintro e g ⟨rfl,l⟩;subst g;rw[i.o];go_wp2;go_ret;exact⟨by rw[w.o];rfl,0,rfl⟩
 ·obtain⟨v,x⟩:=VC (dgi c) (dgi d) (Ja c);have t:=VD (Jr c _) (Jr d _) x;rw[Jz,show Jj (dgi d) (Ja c)=d by rw[s];exact Jz d] at t;have w:=qh t;have i:=qh<|show Js (Ja c:Int) (Ja d)=0 from J7 Zo;obtain⟨C,p,h⟩:=x;have EQ:=qh p;have E:=qh h;have HL:=qh s;clear t p h s;go_enter func206,ntmps206;go_wp2_with fail
  refine(ZJ _ _ _).mono ?_;rintro e g ⟨rfl,l⟩;subst g;rw[i.o];go_wp2;go_loopw [6] (λJ wr=>∃ u:Nat,v<=u/\u<=Ja c/\J=.int .i64 ((u:Int)-1)/\∃ K,wr=D.drewN K) (λJ _=>(1+intOf J).toNat)
  case atStart=>exact⟨Ja c,C,zj,rfl,0,rfl⟩
  case round =>
   obtain⟨u,Q,M,rfl,L,rfl⟩:=hrel;by_cases A:u=0
   ·subst A;have F:=qh (show Js c d=0 by rw[w.o,if_pos Zo]);rw[show(((0:Nat):Int)-1) = -1 from rfl];go_wp2;go_ret;exact⟨by rw[F.o];rfl,L,rfl⟩
   ·obtain⟨f,rfl⟩:∃ f,u=f+1:=⟨u-1,Zo⟩;rw[show(((f+1:Nat):Int)-1)=(f:Int) by omega];obtain⟨O,W,rfl,m⟩:=y.cells Zo;obtain⟨P,X,rfl,o⟩:=z.cells (Zh HL);have c1:=m f Zo;have c2:=o f (Zh HL);have U:f<Ja c:=Zo;have V:f<Ja d:=Zh HL;clear m o y z;by_cases q:v<=f
    ·have h:(dgi c f != dgi d f)=false:=by rw[EQ.o f q Zo];simp
     go_wp2;go_quiet (fail);go_wp2;go_roundw
     case rel=>exact⟨f,q,Zo,rfl,_,rfl⟩
     case measure=>simp[intOf];omega
    ·have j:v=f+1:=Zo
     have r:dgi c f≠dgi d f:=by have:=E.o Zo;rw[j] at this;simpa using this
     have h:(dgi c f != dgi d f)=true:=by simpa using r
     have F:=qh (show Js c d=Js (dgi c f) (dgi d f) by rw[w.o,if_neg Zo,j];rfl);clear j r;go_wp2;go_quiet (fail);go_wp2;go_quiet (exact(jjg (dgi c f) (dgi d f) _).mono λe N ⟨I,l⟩=>⟨I,_,l⟩);go_wp2;go_ret;exact⟨by rw[F.o];rfl,_,by rw[World.drewN_drewN,World.drewN_drewN]⟩
 ·have w:=qh<|show Js c d=1 from JS (by have:=Y5 s;omega);have i:=qh<|show Js (Ja c:Int) (Ja d)=1 from JS Zo;go_enter func206,ntmps206;go_wp2_with fail
  refine(ZJ _ _ _).mono ?_;rintro e g ⟨rfl,l⟩;subst g;rw[i.o];go_wp2;go_ret;exact⟨by rw[w.o];rfl,0,rfl⟩
end Limb
namespace Limb
variable {L M i k m n:Nat} {V X g h two v1:Int} {f o qp r up:Nat->Int}
def splice (o:Nat->Int) (i m:Nat) (r:Nat->Int):Nat->Int:=λk=>if i<=k/\k<i+m then r (k-i) else o k
theorem ZL (c:k<m):splice o i m r (i+k)=r k:=by
 unfold splice;rw[if_pos ⟨Zo,Zo⟩,Nat.add_sub_cancel_left]
theorem Xb (c:k<i\/i+m<=k):splice o i m r k=o k:=by
 unfold splice;rw[if_neg Zo]
theorem jgn (d:Dig o L) (j:Dig r m):Dig (splice o i m r) L:=by
 intro k c;by_cases h:i<=k/\k<i+m
 ·obtain⟨l,rfl⟩:∃ l,k=i+l:=⟨k-i,Zo⟩;rw[ZL Zo];exact j l Zo
 ·rw[Xb Zo];exact d k c
structure DivI (X V:Int) (n L M i:Nat) (up qp:Nat->Int):Prop where
 udig:Dig up L
 qdig:Dig qp M
 qz:∀ k,k<i->qp k=0
 bal:X=V*((pw i:Int)*Jj (λk=>qp (i+k)) (M-i))+Jj up L
 lt:Jj up L<V*(pw i:Int)
def QN (up:Nat->Int) (n i:Nat):Int:=Jj (λk=>up (i+k)) (n+1)
theorem jbu {a b c:Int} (j:0<c) (d:c*a<c*b):a<b:=Int.lt_of_mul_lt_mul_left d Zo
theorem DivI.head (w:DivI X V n L M (i+1) up qp) (I:i<M) (G:M+n=L) (H:V<(pw n:Int)) (A:0<V) :
  0<=QN up n i/\QN up n i<V*1000000000/\Jj up L=Jj up i+(pw i:Int)*QN up n i/\Jj (λk=>up (i+(n+1)+k)) (L-i-(n+1))=0:=by
 have u:(0:Int)<(pw i:Int):=by have:=Q5 i;omega
 have C:(0:Int)<(pw (n+1):Int):=by have:=Q5 (n+1);omega
 have c:Jj up L=Jj up i+(pw i:Int)*Jj (λk=>up (i+k)) (L-i):=by
  have h:=QP up i (L-i);rwa [show i+(L-i)=L by omega] at h
 have d:Jj (λk=>up (i+k)) (L-i)=QN up n i+(pw (n+1):Int)*Jj (λk=>up (i+(n+1)+k)) (L-i-(n+1)):=by
  have h:=QP (λk=>up (i+k)) (n+1) (L-i-(n+1));rw[show n+1+(L-i-(n+1))=L-i by omega] at h;rw[h]
  have:(λk=>up (i+(n+1+k)))=λk=>up (i+(n+1)+k):=by funext k;rw[<- Nat.add_assoc]
  rw[this];rfl
 have E:=(JB (o:=up) (n:=i) λk p=>w.udig k Zo);have x:=(JB (o:=λk=>up (i+k)) (n:=n+1) λk p=>w.udig (i+k) Zo);have l:=(JB (o:=λk=>up (i+(n+1)+k)) (n:=L-i-(n+1)) λk p=>w.udig _ Zo);have y:0<=QN up n i:=x.1
 generalize J:Jj (λk=>up (i+(n+1)+k)) (L-i-(n+1))=s at d l
 generalize K:Jj (λk=>up (i+k)) (L-i)=t at c d
 have q:=w.lt;rw[c,JR,Int.natCast_mul] at q
 have j:t<V*1000000000:=by
  refine jbu u ?_
  have:V*((pw i:Int)*((1000000000:Nat):Int))=(pw i:Int)*(V*1000000000):=by rw[Int.mul_left_comm];rfl
  omega
 have z:(pw (n+1):Int)=(pw n:Int)*1000000000:=by rw[JR,Int.natCast_mul];rfl
 have v:s=0:=by
  have D:0<=s:=l.1
  rcases Int.lt_or_le 0 s with h | h
  ·have F:(pw (n+1):Int)*1<=(pw (n+1):Int)*s:=Int.mul_le_mul_of_nonneg_left Zo Zo;omega
  ·omega
 subst v;rw[Int.mul_zero,Int.add_zero] at d;rw[d] at c j;exact⟨y,j,c,rfl⟩
theorem jgo (t:i+(n+1)<=L) (s:Jj (λk=>up (i+(n+1)+k)) (L-i-(n+1))=0):Jj (splice up i (n+1) r) L=Jj up i+(pw i:Int)*Jj r (n+1):=by
 have d:=QP (splice up i (n+1) r) i (L-i);rw[show i+(L-i)=L by omega] at d;have j:=QP (λk=>splice up i (n+1) r (i+k)) (n+1) (L-i-(n+1));rw[show n+1+(L-i-(n+1))=L-i by omega] at j;rw[d,j]
 have l:Jj (splice up i (n+1) r) i=Jj up i:=Qb λk c=>Xb (Or.inl c)
 have p:Jj (λk=>splice up i (n+1) r (i+k)) (n+1)=Jj r (n+1):=Qb λk c=>ZL c
 have q:Jj (λk=>splice up i (n+1) r (i+(n+1+k))) (L-i-(n+1))=0:=by
  rw[<- s]
  refine Qb λk c=>?_
  rw[Xb (Or.inr Zo)]
  congr 1;omega
 rw[l,p,q];simp
theorem DivI.step {g:Int} {r:Nat->Int} (d:DivI X V n L M (i+1) up qp) (x:i<M) (v:M+n=L) (w:V<(pw n:Int)) (l:0<V)
  (hg:0<=g/\g<1000000000) (A:Dig r (n+1)) (p:Jj r (n+1)=QN up n i-V*g) (C:QN up n i-V*g<V):DivI X V n L M i (splice up i (n+1) r) (upd qp i g):=by
 obtain⟨F,G,t,u⟩:=d.head x v w l;have j:=jgo (r:=r) Zo u
 have D:(0:Int)<(pw i:Int):=by have:=Q5 i;omega
 have E:=(JB (o:=up) (n:=i) λk y=>d.udig k Zo);refine⟨jgn d.udig A,Y6 d.qdig i hg,λk y=>by rw[upd_ne _ _ Zo];exact d.qz k Zo,?_,?_⟩
 ·rw[j,p]
  have z:Jj (λk=>upd qp i g (i+k)) (M-i)=g+1000000000*Jj (λk=>qp (i+1+k)) (M-(i+1)):=by
   rw[show M-i=(M-(i+1))+1 by omega,Z5]
   have e:(λk=>upd qp i g (i+(k+1)))=λk=>qp (i+1+k):=by
    funext k;rw[upd_ne _ _ Zo,show i+(k+1)=i+1+k by omega]
   rw[e,Nat.add_zero,upd_same]
  have c:=d.bal;rw[t,JR,Int.natCast_mul] at c;rw[z]
  generalize Jj (λk=>qp (i+1+k)) (M-(i+1))=Q at c ⊢
  generalize QN up n i=h at c ⊢
  generalize Jj up i=lo at c ⊢
  generalize (pw i:Int)=P at c ⊢
  rw[c];have q:P*(V*g)=V*(P*g):=Int.mul_left_comm _ _ _
  have s:V*(P*((1000000000:Nat):Int)*Q)=V*(P*(1000000000*Q)):=by rw[Int.mul_assoc P];rfl
  simp only[Int.mul_add,Int.mul_sub];rw[q,s];omega
 ·rw[j,p];have:(pw i:Int)*(QN up n i-V*g)<=(pw i:Int)*(V-1):=Int.mul_le_mul_of_nonneg_left Zo Zo;rw[Int.mul_sub (pw i:Int) V 1,Int.mul_comm (pw i:Int) V] at this;omega
theorem guess_ge {B1:Int} (l:0<v1) (t:0<B1) (s:v1*B1<=V) (q:0<=h) (y:h<(two+1)*B1) (d:h<V*1000000000) (c:0<V):h/V<=min (two/v1) 999999999:=by
 have j:0<=h/V:=Int.ediv_nonneg q Zo;have u:h/V*V<=h:=Int.ediv_mul_le h Zo;have w:h/V<1000000000:=Int.ediv_lt_of_lt_mul c (by rw[Int.mul_comm];exact d)
 have x:h/V<=two/v1:=by
  refine(Int.le_ediv_iff_mul_le l).2 ?_;have v:h/V*(v1*B1)<=h/V*V:=Int.mul_le_mul_of_nonneg_left s j
  have p:(h/V*v1)*B1<(two+1)*B1:=by rw[Int.mul_assoc];omega
  have:=Int.lt_of_mul_lt_mul_right p Zo;omega
 omega
theorem jgp {v2 h2 c:Int} (q:0<c) (p:(v1*1000000000+v2)*c<=V) (y:h<(two*1000000000+h2+1)*c) (hg:0<=g) (d:(two-g*v1)*1000000000+h2<g*v2) (t:h/V<=g) (s:0<V):h/V<=g-1:=by
 rcases Int.lt_or_le (h/V) g with v | u
 ·omega
 ·have e:h/V=g:=Zo
  have x:g*V<=h:=by rw[<- e];exact Int.ediv_mul_le h Zo
  have w:g*((v1*1000000000+v2)*c)<=g*V:=Int.mul_le_mul_of_nonneg_left p hg
  have j:(g*(v1*1000000000+v2))*c<(two*1000000000+h2+1)*c:=by rw[Int.mul_assoc];omega
  have l:=Int.lt_of_mul_lt_mul_right j Zo;rw[Int.mul_add,<- Int.mul_assoc] at l;rw[Int.sub_mul] at d;omega
theorem VE (c:0<V) (j:h/V<=g) (l:¬h<V*g):g=h/V/\0<=h-V*g/\h-V*g<V:=by
 have p:g<=h/V:=(Int.le_ediv_iff_mul_le c).2 (by rw[Int.mul_comm];omega);have e:g=h/V:=Zo;refine⟨e,Zo,?_⟩;have d:=Int.lt_ediv_add_one_mul_self h c;rw[<- e,Int.add_mul,Int.mul_comm g V] at d;omega
theorem Uo (c:0<V) (j:h/V<=g) (d:h<V*g):h/V<=g-1:=by
 have l:h/V<g:=Int.ediv_lt_of_lt_mul c (by rw[Int.mul_comm];exact d);omega
theorem Uq (c:Dig f (m+1+1)):Jj f (m+1+1)<(f (m+1)*1000000000+f m+1)*(pw m:Int)/\(f (m+1)*1000000000+f m)*(pw m:Int)<=Jj f (m+1+1):=by
 have b:=JB (o:=f) (n:=m) λk d=>c k Zo
 rw[Jj,Jj,JR,Int.natCast_mul]
 have e:f (m+1)*((pw m:Int)*((1000000000:Nat):Int))=f (m+1)*1000000000*(pw m:Int):=by rw[Int.mul_comm (pw m:Int),<- Int.mul_assoc];rfl
 rw[e,Int.add_mul,Int.add_mul];omega
theorem jjh (d:Dig f (m+1+1+1)):Jj f (m+1+1+1)<((f (m+1+1)*1000000000+f (m+1))*1000000000+f m+1)*(pw m:Int):=by
 have b:=Uq (f:=f) (m:=m) λk j=>d k Zo
 rw[Jj,JR,JR,Int.natCast_mul,Int.natCast_mul]
 have e:f (m+1+1)*((pw m:Int)*((1000000000:Nat):Int)*((1000000000:Nat):Int))=f (m+1+1)*1000000000*1000000000*(pw m:Int):=by
  rw[Int.mul_comm (pw m:Int),Int.mul_assoc,Int.mul_comm (pw m:Int),<- Int.mul_assoc,<- Int.mul_assoc];rfl
 rw[e];have c:Jj f (m+2)<(f (m+1)*1000000000+f m+1)*(pw m:Int):=b.1;rw[Int.add_mul,Int.add_mul] at c;rw[Int.add_mul,Int.add_mul,Int.add_mul (f (m+1+1)*1000000000),Int.add_mul];omega
theorem sum_low (c:Dig o L) (t:n<=L) (v:Jj o L<(pw n:Int)):Jj o n=Jj o L:=by
 have e:=QP o n (L-n);rw[show n+(L-n)=L by omega] at e;have q:=(JB (o:=o) (n:=n) λk p=>c k Zo);have d:=(JB (o:=λk=>o (n+k)) (n:=L-n) λk p=>c (n+k) Zo)
 have u:(0:Int)<(pw n:Int):=by have:=Q5 n;omega
 generalize Jj (λk=>o (n+k)) (L-n)=s at e d
 rcases Int.lt_or_le 0 s with j | j
 ·have:(pw n:Int)*1<=(pw n:Int)*s:=Int.mul_le_mul_of_nonneg_left Zo Zo;omega
 ·have l:s=0:=Zo;rw[l,Int.mul_zero] at e;omega
theorem div_end {A Bv sc Q R:Int} (c:0<sc) (l:A*sc=Bv*sc*Q+R) (t:0<=R) (j:R<Bv*sc):Q=A/Bv/\R/sc=A%Bv:=by
 have e:R=sc*(A-Bv*Q):=by
  rw[Int.mul_sub,Int.mul_comm sc A,<- Int.mul_assoc,Int.mul_comm sc Bv];omega
 have p:0<=A-Bv*Q:=by
  rcases Int.lt_or_le (A-Bv*Q) 0 with l | l
  ·have:=Int.mul_neg_of_pos_of_neg c l;omega
  ·exact l
 have s:A-Bv*Q<Bv:=by
  refine jbu c ?_;rw[<- e,Int.mul_comm sc Bv];exact j
 have d:=(Int.ediv_emod_unique (a:=A) (b:=Bv) (q:=Q) (r:=A-Bv*Q) Zo).2 ⟨Zo,p,s⟩;refine⟨d.1.symm,?_⟩;rw[d.2,e,Int.mul_ediv_cancel_left _ Zo]
theorem jek (up:Nat->Int) (c j:Nat):splice up c j (λk=>up (c+k))=up:=by
 funext k;by_cases h:c<=k/\k<c+j
 ·obtain⟨d,rfl⟩:∃ d,k=c+d:=⟨k-c,Zo⟩;rw[ZL Zo]
 ·rw[Xb Zo]
theorem DivI.skip (q:DivI X V n L M (i+1) up qp) (p:i<M) (j:M+n=L) (l:V<(pw n:Int)) (c:0<V) (v:QN up n i/V<=0):DivI X V n L M i up qp:=by
 have s:=(q.head p j l c).1;have u:0<=QN up n i/V:=Int.ediv_nonneg s Zo;have t:=Int.lt_ediv_add_one_mul_self (QN up n i) c;rw[show QN up n i/V=0 by omega] at t;have h:=q.step (g:=0) (r:=λk=>up (i+k)) p j l c ⟨Zo,Zo⟩ (λk d=>q.udig (i+k) Zo) (by rw[Int.mul_zero,Int.sub_zero];rfl) (by rw[Int.mul_zero];omega);rw[jek] at h
 have e:upd qp i 0=qp:=by
  funext k;by_cases d:k=i
  ·subst d;rw[upd_same,q.qz k Zo]
  ·rw[upd_ne _ _ d]
 rwa [e] at h
open Go.RowKit Go.Sort Go.ChangeShapes Go.WideShapes Go.ChangeAt
theorem jfk:prog.cellsOf 30=2:=by kernel_rfl
theorem jji:prog.cellsOf 4=1:=by kernel_rfl
theorem jjj:prog.cellsOf 28=1:=by kernel_rfl
theorem jjk:prog.cellsOf 128=1:=by kernel_rfl
theorem open_list {A:Type} {p:TypeId × Value->A} {C:World} {z:Nat->Bool} {t:Bool} {d:Nat} {v:Value} {H:DataW A × List MemPlace}
  (F:DataW.trod p prog C 0 z t d 28 [v]=some H):∃ a n D o,v=.slice a n D/\Rd C a n o/\n<=D:=by
 rcases open_ints underlying28 underlying128 jjk F with ⟨e,_⟩ | ⟨a,len,l,c,e,_,w,_,y,_,s,x⟩
 ·simp only[List.cons.injEq,and_true] at e;exact⟨none,0,0,λ_=>0,e,Rd.nil _ _ _,zj⟩
 ·simp only[List.cons.injEq,and_true] at e
  have E:len<=c.length:=by rw[y];split <;> omega
  refine⟨some a,len,l,λi=>c.getD i 0,e,⟨λG=>?_,λi u=>?_⟩,w⟩
  ·obtain⟨b,off,rfl,q⟩:=ints_at s Zo;exact⟨b,off,rfl,λi u=>q i Zo⟩
  ·have j:c.getD i 0∈c:=by
    rw[List.getD_eq_getElem?_getD,List.getElem?_eq_getElem Zo];exact List.getElem_mem _
   exact bounds_u32 (x _ j)
end Limb
namespace Mono
open Go.RowKit Go.Sort
def Js (x y:Int):Int:=if x<y then -1 else if y<x then 1 else 0
theorem jbv (c d:Int) (p:World) :
  Cl 201 #[.int .u16 c,.int .u16 d] p λe l=>e=.returned (.int .i64 (Js c d))/\l=p:=by
 rcases Int.lt_trichotomy c d with h | h | h
 ·have j:=qh (show Js c d = -1 by simp[Js,h]);go_enter func201,ntmps201;go_wp2;go_ret;exact⟨by rw[j.o];rfl,rfl⟩
 ·have j:=qh (show Js c d=0 by simp[Js,h]);subst h;go_enter func201,ntmps201;go_wp2;go_ret;exact⟨by rw[j.o];rfl,rfl⟩
 ·have j:=qh (show Js c d=1 by simp[Js,h];omega);go_enter func201,ntmps201;go_wp2;go_ret;exact⟨by rw[j.o];rfl,rfl⟩
theorem ZJ (c d:Int) (p:World) :
  Cl 198 #[.int .i64 c,.int .i64 d] p λe l=>e=.returned (.int .i64 (Js c d))/\l=p:=by
 rcases Int.lt_trichotomy c d with h | h | h
 ·have j:=qh (show Js c d = -1 by simp[Js,h]);go_enter func198,ntmps198;go_wp2;go_ret;exact⟨by rw[j.o];rfl,rfl⟩
 ·have j:=qh (show Js c d=0 by simp[Js,h]);subst h;go_enter func198,ntmps198;go_wp2;go_ret;exact⟨by rw[j.o];rfl,rfl⟩
 ·have j:=qh (show Js c d=1 by simp[Js,h];omega);go_enter func198,ntmps198;go_wp2;go_ret;exact⟨by rw[j.o];rfl,rfl⟩
def Diff (a b:Nat->Int) (k:Nat):Prop:=k<=4/\(∀ j,j<k->a j=b j)/\(k<4->a k≠b k)
theorem ZP (a b:Nat->Int):∃ k,Diff a b k:=by
 by_cases h:∀ k,k<4->a k=b k
 ·exact⟨4,Zo,h,λj=>absurd j Zo⟩
 ·obtain⟨k,l,c,d⟩:=Xh (λk=>a k=b k) 4 h;exact⟨k,Zo,c,λ_=>d⟩
def Xn (a b:Nat->Int):Int :=
 if a 0≠b 0 then Js (a 0) (b 0) else if a 1≠b 1 then Js (a 1) (b 1) else if a 2≠b 2 then Js (a 2) (b 2) else Js (a 3) (b 3)
theorem ZQ {a b:Nat->Int} {k:Nat} (l:Diff a b k):Xn a b=if k<4 then Js (a k) (b k) else 0:=by
 obtain⟨j,c,d⟩:=l
 match k,j with
 | 0,_=>simp[Xn,d Zo]
 | 1,_=>simp[Xn,c 0 Zo,d Zo]
 | 2,_=>simp[Xn,c 0 Zo,c 1 Zo,d Zo]
 | 3,_=>simp[Xn,c 0 Zo,c 1 Zo,c 2 Zo]
 | 4,_=>simp[Xn,c 0 Zo,c 1 Zo,c 2 Zo,c 3 Zo,Js]
theorem Kl (s t C D:Nat) (a b:Nat->Int) (x:World) (z:x.rowIs s C 4 (cell a)) (A:x.rowIs t D 4 (cell b)) :
  Cl 162 #[.slice (some ⟨s,0,none⟩) 4 4,.slice (some ⟨t,0,none⟩) 4 4] x λe p=>e=.returned (.int .i64 (Xn a b))/\p=x:=by
 obtain⟨l,v⟩:=ZP a b;have E:=qh<|ZQ v;obtain⟨G,d,j⟩:=v;have EQ:=qh d;clear d;have y:=qh j;clear j;go_enter func162,ntmps162;go_wp2;go_loop [11] (λi=>∃ k:Nat,k<=l/\i=.int .i64 k) (λi=>4-(intOf i).toNat)
 case atStart=>exact⟨0,Zo,rfl⟩
 case round =>
  obtain⟨k,H,rfl⟩:=hrel;by_cases c:k<4
  ·have c1:=z.cell c;have c2:=A.cell c;by_cases w:k<l
   ·have q:=qh (show Js (a k) (b k)=0 by rw[EQ.o k w];simp[Js]);go_wp2_with fail
    refine(jbv _ _ _).mono ?_;rintro e p ⟨rfl,rfl⟩;rw[q.o];go_wp2;go_round
    case rel=>exact⟨k+1,Zo,by go_num⟩
    case measure=>simp[intOf];omega
   ·obtain rfl:k=l:=Zo;have q:=qh (show Xn a b=Js (a k) (b k) by rw[E.o,if_pos c])
    have F:(Js (a k) (b k) != 0)=true:=by
     have:=y.o c;unfold Js;by_cases u:a k<b k
     ·simp[u]
     ·rw[if_neg u,if_pos Zo];rfl
    go_wp2_with fail
    refine(jbv _ _ _).mono ?_;rintro e p ⟨rfl,rfl⟩;go_wp2;go_ret;exact⟨by rw[q.o];rfl,rfl⟩
  ·have q:=qh (show Xn a b=0 by rw[E.o,if_neg Zo]);obtain rfl:k=4:=Zo;go_wp2;go_ret;exact⟨by rw[q.o];rfl,rfl⟩
theorem Zc (a b:Nat->Int) (d:World) :
  Cl 101 #[mvf a,mvf b] d λe j=>e=.returned (.int .i64 (Xn a b))/\Bl d j:=by
 have c:=qh<|boxes d 35 a b;go_enter func101,ntmps101;go_wp2;go_quiet (exact Calls.quiet_of_same (Kl _ _ _ _ a b _ (c.o.1.of_block rfl) (c.o.2.of_block rfl)));go_wp2;go_ret;exact⟨rfl,below_drewN (by go_grown) _⟩
theorem Ur (a b:Nat->Int) (v:World) (d:Small a) (j:Small b) :
  Cl 160 #[mvf a,mvf b] v λe p=>e=.returned (.int .i64 (Js (JF a) (JF b)))/\Bl v p:=by
 have q:=qh d;clear d;have s:=qh j;clear j;have c:=boxes v 35 a b;obtain⟨x,y,z,A⟩:=YV c.1;obtain⟨C,D,E,F⟩:=YV c.2;clear c;go_enter func160,ntmps160;go_wp2;refine wp_region_quiet_below Zk Zk ?_
 repeat (go_big_quiet_step (first
  | (go_at_call 198;exact Calls.regrown_of ((ZJ _ _ _).mono λe p ⟨t,u⟩=>⟨t,u▸zk⟩))
  | (go_at_call 199;first | (with_reducible exact Calls.regrown_of (Uj a _ q.o)) | (with_reducible exact Calls.regrown_of (Uj b _ s.o)))))
 refine wpQuiet_nil ?_;intro G l;obtain⟨w,rfl⟩:=l;go_wp2;go_ret;exact⟨rfl,((zk.alloc zj _).alloc (by simp) _).trans ((below_regrown _ w.d w.os).mono (by simp;omega))⟩
end Mono
namespace Limb
open Go.RowKit Go.Sort
theorem chk_fn (j:Int) (l:World) :
  Cl 225 #[.int .u32 j] l λe d=>e=.returned (.bool (decide (1000000000<=j)))/\d=l:=by
 by_cases h:1000000000<=j
 ·have c:=qh<|decide_eq_true h;go_enter func225,ntmps225;go_wp2;go_ret;exact⟨by rw[c.o];rfl,rfl⟩
 ·have c:=qh<|zo h;go_enter func225,ntmps225;go_wp2;go_ret;exact⟨by rw[c.o];rfl,rfl⟩
theorem cf_chk (c:Array Value) (d:World):(callFunc 225 c).run prog d=.ok (.enter 225 c) d:=by kernel_rfl
theorem idx_any (a:Option Addr) (n q c:Nat) (o:Nat->Int) (x:World) (C:Rd x a n o) (I:n<=1000000000) (F:c<=n) (u:∀ i,i<c->o i<1000000000) (s:c<n->1000000000<=o c) :
  Cl 245 #[.slice a n q,.func (.func 225) #[] #[]] x λe l=>e=.returned (.int .i64 (if c<n then (c:Int) else -1))/\∃ m,l=x.drewN m:=by
 have A:=qh u;clear u;have z:=qh s;clear s;have E:=cf_chk;go_enter func245,ntmps245;go_wp2;go_loopw [8] (λi wr=>∃ d:Nat,d<=c/\i=.int .i64 d/\∃ m,wr=x.drewN m) (λi _=>n-(intOf i).toNat)
 case atStart=>exact⟨0,Zo,rfl,0,rfl⟩
 case round =>
  obtain⟨d,H,rfl,p,rfl⟩:=hrel;by_cases j:d<n
  ·obtain⟨b,off,rfl,t⟩:=C.cells Zo;have c1:=t d j;clear t C;by_cases v:d<c
   ·have G:=A.o d v
    have y:decide (1000000000<=o d)=false:=by simp;omega
    go_wp2_with fail
    refine(chk_fn (o d) _).mono ?_;rintro e l ⟨rfl,D⟩;subst l;rw[y];go_wp2;go_roundw
    case rel=>exact⟨d+1,Zo,by go_num,p,rfl⟩
    case measure=>simp[intOf];omega
   ·obtain rfl:d=c:=Zo;have G:=z.o j
    have y:decide (1000000000<=o d)=true:=by simp;omega
    go_wp2_with fail
    refine(chk_fn (o d) _).mono ?_;rintro e l ⟨rfl,D⟩;subst l;rw[y];go_wp2;go_ret;exact⟨by first | rfl | (rw[if_pos j];rfl),p,rfl⟩
  ·have w:¬c<n:=Zo;clear C;go_wp2;go_ret;exact⟨by first | rfl | (rw[if_neg w];rfl),p,rfl⟩
theorem has_any (a:Option Addr) (n j c:Nat) (o:Nat->Int) (u:World) (x:Rd u a n o) (w:n<=1000000000) (s:c<=n) (q:∀ i,i<c->o i<1000000000) (p:c<n->1000000000<=o c) :
  Cl 224 #[.slice a n j,.func (.func 225) #[] #[]] u λe l=>e=.returned (.bool (decide (c<n)))/\∃ m,l=u.drewN m:=by
 have t:=qh<|idx_any a n j c o u x w s q p;clear x q p;by_cases d:c<n
 ·have v:=qh<|decide_eq_true d;rw[if_pos d] at t;go_enter func224,ntmps224;go_wp2_with fail
  refine t.o.mono ?_;rintro e l ⟨rfl,m,rfl⟩;go_wp2;go_ret;exact⟨by rw[v.o];rfl,m,rfl⟩
 ·have v:=qh<|zo d;rw[if_neg d] at t;go_enter func224,ntmps224;go_wp2_with fail
  refine t.o.mono ?_;rintro e l ⟨rfl,m,rfl⟩;go_wp2;go_ret;exact⟨by rw[v.o];rfl,m,rfl⟩
theorem Xh (o:Nat->Int) (n:Nat):∃ k,k<=n/\(∀ i,i<k->o i<1000000000)/\(k<n->1000000000<=o k):=by
 induction n with
 | zero=>exact⟨0,Zo,λi h=>Zo,λh=>Zo⟩
 | succ n ih =>
  obtain⟨k,l,c,d⟩:=ih;by_cases j:k<n
  ·exact⟨k,Zo,c,λ_=>d j⟩
  ·obtain rfl:k=n:=Zo;by_cases h:o k<1000000000
   ·exact⟨k+1,Zo,λi p=>by
     by_cases e:i=k
     ·rw[e];exact h
     ·exact c i Zo,λh=>Zo⟩
   ·exact⟨k,Zo,c,λ_=>Zo⟩
open Classical in
theorem Qw (v:Bool) (a:Option Addr) (n u:Nat) (o:Nat->Int) (C:World) (x:Rd C a n o) (H:n<=1000000000) :
  Cl 178 #[Jv v a n u] C λe t=>e=.returned (.bool (decide (okN v n o)))/\Bl C t:=by
 obtain⟨l,z,d,p⟩:=Xh o n;have F:=qh (λ(D:World) (I:Bl C D)=>has_any a n u l o D (x.below I) H z d p);have J:=cf_chk;by_cases q:l<n
 ·have w:=qh (show decide (okN v n o)=false from zo λj=>by have:=j.1 l q;have:=p q;omega);have E:decide (l<n)=true:=decide_eq_true q;clear d p x;go_enter func178,ntmps178;go_wp2_with fail
  refine(F.o _ ?_).mono ?_
  ·exact qg
  rintro e t ⟨rfl,m,rfl⟩;rw[E];go_wp2;go_ret;exact⟨by rw[w.o];rfl,qg⟩
 ·have E:decide (l<n)=false:=zo q
  have c:∀ i,i<n->o i<1000000000:=λi P=>d i Zo
  clear p;by_cases G:n=0
  ·subst G
   have w:=qh (show decide (okN v 0 o) = !v by
    cases v with
    | false=>exact decide_eq_true ⟨c,λ_=>rfl,λx=>Zo⟩
    | true=>exact zo λj=>by have:=j.2.1 rfl;contradiction)
   clear d x c;go_enter func178,ntmps178;go_wp2_with fail
   refine(F.o _ ?_).mono ?_
   ·exact qg
   rintro e t ⟨rfl,m,rfl⟩;rw[E]
   cases v with
   | false =>
    go_wp2;go_ret
    exact⟨by rw[w.o];rfl,qg⟩
   | true =>
    go_wp2;go_ret;exact⟨by rw[w.o];rfl,qg⟩
  ·obtain⟨b,off,rfl,y⟩:=x.cells Zo;have c1:=y (n-1) Zo
   have w:=qh (show decide (okN v n o)=(o (n-1) != 0) by
    by_cases s:o (n-1)=0
    ·rw[s]
     exact zo λj=>j.2.2 Zo s
    ·rw[show(o (n-1) != 0)=true by simpa using s]
     exact decide_eq_true ⟨c,λx=>Zo,λ_=>s⟩)
   have K:b<C.heap.size:=block_lt_of_cell c1;obtain⟨A,rfl⟩:∃ A,n=A+1:=⟨n-1,Zo⟩;rw[Nat.add_sub_cancel] at c1 w;have N:((A+1:Nat):Int)-1=(A:Int):=Zo
   have O:(decide (((A+1:Nat):Int)=0))=false:=by simp;omega
   clear d x c y;go_enter func178,ntmps178;go_wp2_with fail
   refine(F.o _ ?_).mono ?_
   ·exact qg
   rintro e t ⟨rfl,m,rfl⟩;rw[E];go_wp2;go_ret;exact⟨by rw[w.o];rfl,qg⟩
end Limb
namespace Limb
def q0 (x y:Int):Int:=if decide (x<0)=decide (y<0) then ((x.natAbs/y.natAbs:Nat):Int) else -((x.natAbs/y.natAbs:Nat):Int)
def r0 (x y:Int):Int:=if x<0 then -((x.natAbs%y.natAbs:Nat):Int) else ((x.natAbs%y.natAbs:Nat):Int)
theorem jd1 (c d:Int):(q0 c d).natAbs=c.natAbs/d.natAbs:=by unfold q0;generalize c.natAbs/d.natAbs=Q;split <;> omega
theorem jd2 (c d:Int):(r0 c d).natAbs=c.natAbs%d.natAbs:=by unfold r0;generalize c.natAbs%d.natAbs=R;split <;> omega
theorem XX {m:Nat}:(0<Ja m)↔0<m:=by
 have:=QI (m:=m);omega
theorem jil (c d:Int):((!(decide (c<0)==decide (d<0)))&&decide (0<Ja (c.natAbs/d.natAbs)))=decide (q0 c d<0):=by
 have e:=XX (m:=c.natAbs/d.natAbs);unfold q0
 generalize c.natAbs/d.natAbs=Q at *
 by_cases h:decide (c<0)=decide (d<0)
 ·rw[if_pos h,h];simp
 ·rw[if_neg h]
  have j:(decide (c<0)==decide (d<0))=false:=by simpa using h
  rw[j,Bool.not_false,Bool.true_and];exact decide_eq_decide.2 (e.trans Zo)
theorem jim (c d:Int):(decide (c<0)&&decide (0<Ja (c.natAbs%d.natAbs)))=decide (r0 c d<0):=by
 have e:=XX (m:=c.natAbs%d.natAbs);unfold r0
 generalize c.natAbs%d.natAbs=R at *
 by_cases h:c<0
 ·rw[if_pos h,decide_eq_true h,Bool.true_and];exact decide_eq_decide.2 (e.trans Zo)
 ·rw[if_neg h,zo h,Bool.false_and];exact(zo Zo).symm
theorem div_pos {j c d r:Int} (q:0<c) (e:j=c*d+r) (l:0<=r) (p:r<c):j/c=d/\j%c=r:=by
 have:=(Int.ediv_emod_unique q (a:=j) (r:=r) (q:=d)).2 ⟨Zo,l,p⟩;exact this
theorem jin (c d:Nat):(c:Int)=(d:Int)*((c/d:Nat):Int)+((c%d:Nat):Int):=by
 rw[<- Int.natCast_mul,<- Int.natCast_add,Nat.div_add_mod]
theorem jbw {d j:Int} (y:j≠0) (A:¬r0 d j<0):d/j=q0 d j/\d%j=r0 d j:=by
 have e:=jin d.natAbs j.natAbs;have v:d.natAbs%j.natAbs<j.natAbs:=Nat.mod_lt _ Zo;unfold q0 r0 at *
 generalize d.natAbs%j.natAbs=R at *
 generalize d.natAbs/j.natAbs=Q at *
 have u:d<0->R=0:=λu=>by rw[if_pos u] at A;omega
 have key:∀ B:Nat,0<B->R<B->((d.natAbs:Int)=(B:Int)*(Q:Int)+(R:Int))->d/(B:Int)=(if d<0 then -(Q:Int) else (Q:Int))/\d%(B:Int)=(if d<0 then -(R:Int) else (R:Int)):=by
  intro B C z D;by_cases c:d<0
  ·rw[if_pos c,if_pos c];have:=u c;refine div_pos Zo ?_ Zo Zo;rw[Int.mul_neg];omega
  ·rw[if_neg c,if_neg c];exact div_pos Zo Zo Zo Zo
 rcases Int.lt_or_gt_of_ne y with t | t
 ·obtain⟨p,q⟩:=key j.natAbs Zo v e;have l:j = -((j.natAbs:Nat):Int):=Zo
  have w:d/j = -(d/((j.natAbs:Nat):Int)):=by conv=>lhs;rw[l,Int.ediv_neg]
  have x:d%j=d%((j.natAbs:Nat):Int):=by conv=>lhs;rw[l,Int.emod_neg]
  rw[w,x,p,q];refine⟨?_,rfl⟩;by_cases c:d<0
  ·rw[if_pos c,if_pos (by simp[c,t])];omega
  ·rw[if_neg c,if_neg (by simp[c,t])]
 ·obtain⟨p,q⟩:=key j.natAbs Zo v e;have l:j=((j.natAbs:Nat):Int):=Zo;have s:¬j<0:=Zo;rw[<- l] at p q;rw[p,q];refine⟨?_,rfl⟩;by_cases c:d<0
  ·rw[if_pos c,if_neg (by simp[c,s])]
  ·rw[if_neg c,if_pos (by simp[c,s])]
theorem jfl {d c:Int} (w:c≠0) (x:r0 d c<0):d/c=q0 d c+(if c<0 then 1 else -1)/\d%c=r0 d c+(c.natAbs:Int):=by
 have e:=jin d.natAbs c.natAbs;have y:d.natAbs%c.natAbs<c.natAbs:=Nat.mod_lt _ Zo;unfold q0 r0 at *
 generalize d.natAbs%c.natAbs=R at *
 generalize d.natAbs/c.natAbs=Q at *
 have q:d<0:=by
  rcases Int.lt_or_le d 0 with j | j
  ·exact j
  ·rw[if_neg Zo] at x;omega
 rw[if_pos q] at x ⊢
 have key:d/((c.natAbs:Nat):Int) = -(Q:Int)-1/\d%((c.natAbs:Nat):Int) = -(R:Int)+((c.natAbs:Nat):Int):=by
  refine div_pos Zo ?_ Zo Zo;rw[Int.mul_sub,Int.mul_neg];omega
 rcases Int.lt_or_gt_of_ne w with j | j
 ·have l:c = -((c.natAbs:Nat):Int):=Zo
  have u:d/c = -(d/((c.natAbs:Nat):Int)):=by conv=>lhs;rw[l,Int.ediv_neg]
  have v:d%c=d%((c.natAbs:Nat):Int):=by conv=>lhs;rw[l,Int.emod_neg]
  rw[u,v,key.1,key.2];refine⟨?_,rfl⟩;rw[if_pos j,if_pos (by simp[q,j])];omega
 ·have l:c=((c.natAbs:Nat):Int):=Zo;have s:=key.1;have t:=key.2;have p:¬c<0:=Zo;rw[<- l] at s t;rw[s,t];refine⟨?_,Zo⟩;rw[if_neg p,if_neg (by simp[q,p])];omega
end Limb
namespace Limb
variable {at' lb m n:Nat} {ob p:Nat->Int}
def VF (up vp:Nat->Int) (j N:Nat) (g:Int) (k:Nat):Int:=up (j+k)-g*part vp N k
theorem offF_sum (up c:Nat->Int) (l d:Nat) (j:Int) (q:d<=m):Jj (VF up c l d j) m=Jj (λk=>up (l+k)) m-Jj c d*j:=by
 have e:(VF up c l d j)=λk=>(λk=>up (l+k)) k+(λk=>part c d k*(-j)) k:=by
  funext k;show up (l+k)-j*part c d k=up (l+k)+part c d k * -j;rw[Int.mul_neg,Int.mul_comm j];omega
 rw[e,ZI,XW,Q4 c q,Int.mul_neg];omega
theorem cS_neg {f:Nat->Int} {lo:Int} (c:lo<=0) (d:∀ i,i<n->lo*999999999<=f i/\f i<=999999999):lo<=cS f n/\cS f n<=0:=by
 induction n with
 | zero=>exact⟨c,Int.le_refl _⟩
 | succ n ih =>
  have j:=ih λi q=>d i Zo
  have l:=d n Zo;rw[cS];omega
theorem jjl {a n:Int} (c:0<=a/\a<1000000000) (d:0<=n) :
  (a<n%1000000000->a+1000000000-n%1000000000=(a-n)%1000000000/\n/1000000000+1 = -((a-n)/1000000000)) /\
  (¬a<n%1000000000->a-n%1000000000=(a-n)%1000000000/\n/1000000000 = -((a-n)/1000000000)):=by
 omega
def XO (p ob:Nat->Int) (lb at':Nat) (often:Int) (i:Nat):Nat->Int:=λj=>if at'<=j/\j<at' + i then cD (VF p ob at' lb often) (j-at') else p j
theorem jgq (s q:Nat->Int) (l d:Nat) (c:Int):XO s q l d c 0=s:=by
 funext j;unfold XO;rw[if_neg Zo]
theorem jgr (s q:Nat->Int) (l c:Nat) (d:Int) (j:Nat):XO s q l c d j (c + j)=s (c + j):=by
 unfold XO;rw[if_neg Zo]
theorem jgs (t s:Nat->Int) (q c:Nat) (d:Int) (l:Nat):upd (XO t s q c d l) (c + l) (cD (VF t s c q d) l)=XO t s q c d (l+1):=by
 funext j;unfold upd XO;by_cases e:j=c + l
 ·subst e;rw[if_pos rfl,if_pos Zo,show c + l-c=l by omega]
 ·rw[if_neg e];by_cases h:c<=j/\j<c + l
  ·rw[if_pos h,if_pos Zo]
  ·rw[if_neg h,if_neg Zo]
theorem Vl {c:Int} {q:Nat} (l:Dig p n):Dig (XO p ob lb at' c q) n:=by
 intro j d;unfold XO;split
 ·exact QM _ (j-at' + 1) _ Zo
 ·exact l j d
theorem Vm {often:Int} (l:Dig p (at' + m)) (y:lb<=m) (E:0<=often*Jj ob lb) (D:often*Jj ob lb*(pw at':Int)<=Jj p (at' + m)) :
  Jj (XO p ob lb at' often m) (at' + m)=Jj p (at' + m)-often*Jj ob lb*(pw at':Int):=by
 have q:=QP (XO p ob lb at' often m) at' m;have s:=QP p at' m
 have t:Jj (XO p ob lb at' often m) at'=Jj p at':=Qb λi d=>by unfold XO;rw[if_neg Zo]
 have u:Jj (λi=>XO p ob lb at' often m (at' + i)) m=Jj (cD (VF p ob at' lb often)) m:=Qb λi d=>by
  show XO p ob lb at' often m (at' + i)=_;unfold XO;rw[if_pos Zo,show at' + i-at'=i by omega]
 have A:=JB (o:=p) (n:=at') λi d=>l i Zo
 have C:=JB (o:=λi=>p (at' + i)) (n:=m) λi d=>l (at' + i) Zo
 have c:=offF_sum p ob at' lb often y;rw[Int.mul_comm (Jj ob lb)] at c
 generalize often*Jj ob lb=T at *
 generalize Jj (λi=>p (at' + i)) m=S at *
 have z:(0:Int)<(pw at':Int):=by have:=Q5 at';omega
 have w:0<=S-T:=by
  rcases Int.lt_or_le (S-T) 0 with j | j
  ·exfalso;have v:(pw at':Int)*(S-T)<=(pw at':Int)*(-1):=Int.mul_le_mul_of_nonneg_left Zo Zo;rw[Int.mul_sub] at v;rw[Int.mul_comm T] at D;omega
  ·exact j
 have x:=Yi (f:=VF p ob at' lb often) (n:=m) (by rw[c];exact w) (by rw[c];omega);rw[q,t,u,x.2,c,s,Int.mul_sub,Int.mul_comm T];omega
def Uc (p:Nat->Int) (n at':Nat):Int:=1000000000*part p n (at' + 1)+part p n at'
theorem topF_le (c:Dig p n) (d:at' < n):Uc p n at' * (pw at':Int)<=Jj p n:=by
 have u:(0:Int)<(pw at':Int):=by have:=Q5 at';omega
 unfold Uc part;rw[if_pos d];by_cases h:at' + 1<n
 ·rw[if_pos h];obtain⟨m,rfl⟩:∃ m,n=(at' + 1+1)+m:=⟨n-(at' + 1+1),Zo⟩;rw[QP,Jj,Jj,JR];have l:=(JB (o:=p) (n:=at') λi j=>c i Zo).1;have q:=(JB (o:=λi=>p (at' + 1+1+i)) (n:=m) λi j=>c _ Zo).1;have v:0<=(pw (at' + 1+1):Int)*Jj (λi=>p (at' + 1+1+i)) m:=Int.mul_nonneg Zo q
  have e:(1000000000*p (at' + 1)+p at')*(pw at':Int)=p at' * (pw at':Int)+p (at' + 1)*((pw at' * 1000000000:Nat):Int):=by
   have s:1000000000*p (at' + 1)*(pw at':Int)=p (at' + 1)*((pw at':Int)*1000000000):=by ac_rfl
   have t:((pw at' * 1000000000:Nat):Int)=(pw at':Int)*1000000000:=by rw[Int.natCast_mul];rfl
   rw[Int.add_mul,s,t];omega
  omega
 ·obtain rfl:n=at' + 1:=Zo;rw[if_neg h,Jj];have l:=(JB (o:=p) (n:=at') λi j=>c i Zo).1
  have e:(1000000000*0+p at')*(pw at':Int)=p at' * (pw at':Int):=by congr 1;omega
  omega
theorem jio (c:Dig p n):0<=Uc p n at'/\Uc p n at'<=999999999999999999:=by
 unfold Uc part;constructor
 ·split <;> split
  ·have d:=c _ ‹at' + 1<n›;have j:=c _ ‹at' < n›;omega
  ·have d:=c _ ‹at' + 1<n›;omega
  ·have j:=c _ ‹at' < n›;omega
  ·omega
 ·split <;> split
  ·have d:=c _ ‹at' + 1<n›;have j:=c _ ‹at' < n›;omega
  ·have d:=c _ ‹at' + 1<n›;omega
  ·have j:=c _ ‹at' < n›;omega
  ·omega
theorem jgt {L V v T:Int} {l k:Nat} (w:V<(v+1)*(pw l:Int)) (H:0<v) (s:L<V*(pw (k+1):Int)) (t:T*(pw (k+l):Int)<=L) (u:0<=T) (E:0<V) :
  0<=T/(v+1)/\T/(v+1)<=999999999/\T/(v+1)*V*(pw k:Int)<=L:=by
 have x:(0:Int)<(pw k:Int):=by have:=Q5 k;omega
 have D:(0:Int)<(pw l:Int):=by have:=Q5 l;omega
 have c:((pw (k+l):Nat):Int)=(pw k:Int)*(pw l:Int):=by rw[V4,Int.natCast_mul]
 have d:((pw (k+1):Nat):Int)=(pw k:Int)*1000000000:=by rw[JR,Int.natCast_mul];rfl
 have j:0<=T/(v+1):=Int.ediv_nonneg u Zo;have y:T/(v+1)*(v+1)<=T:=Int.ediv_mul_le _ Zo;have F:(0:Int)<(pw k:Int)*(pw l:Int):=Int.mul_pos x D;refine⟨j,?_,?_⟩
 ·have q:T*((pw k:Int)*(pw l:Int))<(v+1)*1000000000*((pw k:Int)*(pw l:Int)):=by
   rw[<- c];refine Int.lt_of_le_of_lt t (Int.lt_trans s ?_);rw[d,c];have z:V*((pw k:Int)*1000000000)<(v+1)*(pw l:Int)*((pw k:Int)*1000000000):=Int.mul_lt_mul_of_pos_right w (Int.mul_pos x Ze)
   have A:(v+1)*(pw l:Int)*((pw k:Int)*1000000000)=(v+1)*1000000000*((pw k:Int)*(pw l:Int)):=by
    ac_rfl
   omega
  have C:T<(v+1)*1000000000:=Int.lt_of_mul_lt_mul_right q Zo;have G:T/(v+1)<1000000000:=Int.ediv_lt_of_lt_mul Zo (by rw[Int.mul_comm];exact C);omega
 ·have q:T/(v+1)*V*(pw k:Int)<=T/(v+1)*((v+1)*(pw l:Int))*(pw k:Int):=Int.mul_le_mul_of_nonneg_right (Int.mul_le_mul_of_nonneg_left Zo j) Zo
  have z:T/(v+1)*((v+1)*(pw l:Int))*(pw k:Int)=T/(v+1)*(v+1)*((pw k:Int)*(pw l:Int)):=by
   ac_rfl
  have A:T/(v+1)*(v+1)*((pw k:Int)*(pw l:Int))<=T*((pw k:Int)*(pw l:Int)):=Int.mul_le_mul_of_nonneg_right y Zo;rw[c] at t;omega
end Limb
namespace Mono
open Go.RowKit Go.Sort
variable {r:Nat}
def XF (a:Nat->Int) (i:Nat):Int:=a (3-i)
theorem VG (b t:Nat) (a:Nat->Int) (j:World) (c:j.rowIs b t 4 (cell a)) :
  Cl 200 #[.slice (some ⟨b,0,none⟩) 4 4] j λe d=>e=.returned (.tuple #[])/\d.rowIs b t 4 (cell (XF a))/\j.grownBy d (some b):=by
 have l:=qh c;obtain⟨c0,c1,c2,c3⟩:=ZK c
 have v:=λi=>c.frozen i
 clear c;go_enter func200,ntmps200;go_wp2;refine wp_loop_rounds 3 ?_;rw[rounds_succ];go_wp2;go_region;go_wp2;rw[rounds_succ];go_wp2;go_region;go_wp2;rw[rounds_succ];go_wp2;go_end0;have u:=((((l.o.set 0 (.int .u16 (a 3))).set 3 (.int .u16 (a 0))).set 1 (.int .u16 (a 2))).set 2 (.int .u16 (a 1))).drew.drew;refine⟨rfl,u.congr (λw q=>?_),rfl,rfl,rfl,?_,λk _ s=>?_⟩
 ·match w,q with
  | 0,_=>simp[XF,cell]
  | 1,_=>simp[XF,cell]
  | 2,_=>simp[XF,cell]
  | 3,_=>simp[XF,cell]
 ·simp
 ·have e:k≠b:=λe=>s (by rw[e])
  show((((j.setCell ⟨b,0,none⟩ _).setCell ⟨b,3,none⟩ _).setCell ⟨b,1,none⟩ _).setCell ⟨b,2,none⟩ _).heap[k]?=_;rw[Below.heap_setCell _ _ _ _ e,Below.heap_setCell _ _ _ _ e,Below.heap_setCell _ _ _ _ e,Below.heap_setCell _ _ _ _ e]
theorem jcw (a b:Nat->Int) (q:World) :
  Cl 161 #[mvf a,mvf b] q λe C=>e=.returned (.int .i64 (Xn (XF b) (XF a)))/\Bl q C:=by
 have y:=qh<|boxes q 35 a b;go_enter func161,ntmps161;go_wp2_with fail
 refine(VG _ _ a _ y.o.1).mono ?_;rintro e D ⟨rfl,j,c⟩;have z:=j;have u:=qh<|y.o.2.of_block (c.block (q.heap.size+1) (by simp) (by simp));have s:=qh (((zk.alloc zj _).alloc (by simp) _).grown c (by simp;omega) (by simp):Bl q D);have x:=qh j;have w:=qh c.size;clear j c z;go_wp2_with fail
 refine(VG _ _ b _ u.o).mono ?_;rintro e E ⟨rfl,l,d⟩;have v:=qh l;have t:=qh<|x.o.of_block (d.block q.heap.size (by have:=w.o;simp at this;omega) (by simp));have A:=qh<|s.o.grown d (by have:=s.o.size;omega) (by simp);clear l d;go_wp2;go_quiet (exact Calls.quiet_of_same (Kl _ _ _ _ (XF b) (XF a) _ (v.o.of_block rfl) (t.o.of_block rfl)));go_wp2;go_ret;exact⟨rfl,below_drewN A.o _⟩
def putObj (X:World) (r:Nat) (o:Obj):World:={ X with heap:=X.heap.setIfInBounds r o }
@[go_sem] theorem Xe (c:World) (r:Nat) (o:Obj):(putObj c r o).heap.size=c.heap.size:=by simp[putObj]
theorem QS {d:World} {o c:Obj} (j:d.heap[r]?=some c):(putObj d r o).heap[r]?=some o:=by
 have:=lt_of_block j;simp[putObj,this]
theorem Qk (c:World) {k:Nat} (o:Obj) (d:k≠r):(putObj c r o).heap[k]?=c.heap[k]?:=by
 simp[putObj,Array.getElem?_setIfInBounds];omega
theorem YG {c:Nat} {j d:World} (l:Below c j d) (s:c<=r) (o:Obj):Below c j (putObj d r o) :=
 l.trans ⟨rfl,rfl,rfl,by simp[putObj],λk q=>Qk d o Zo⟩
theorem Vn (b:Bool) (n:Nat) (k:Int) (c:World):(Instr.checkKey b (n+1) 24 (.int .u8 k)).run prog c=.ok () c:=by
 rw[Instr.checkKey];simp[Sem.run_bind,run_underlying underlying24]
theorem upd0 {X:World} (c:X.heap[r]?=some (.map #[] 0)) (k:Int) (v:Value) :
  (Instr.mapUpdate 108 (.map (some r)) (.int .u8 k) v).run prog X=.ok () (putObj X r (.map #[⟨.int .u8 k,v,0⟩] 1)):=by
 unfold Instr.mapUpdate;simp[Sem.run_bind,run_underlying underlying108,c,getObj,setObj,Vn _ 9999,Instr.findKey,run_underlying underlying24,Instr.findNow,putObj,Sem.run]
theorem upd1 {X:World} {k1:Int} {v1:Value} (d:X.heap[r]?=some (.map #[⟨.int .u8 k1,v1,0⟩] 1)) (k:Int) (v:Value) (c:(k==k1)=false) :
  (Instr.mapUpdate 108 (.map (some r)) (.int .u8 k) v).run prog X=.ok () (putObj X r (.map #[⟨.int .u8 k1,v1,0⟩,⟨.int .u8 k,v,1⟩] 2)):=by
 unfold Instr.mapUpdate;simp[Sem.run_bind,run_underlying underlying108,d,getObj,setObj,Vn _ 9999,Instr.findKey,run_underlying underlying24,Instr.findNow,Instr.sameNow,putObj,Sem.run,c]
theorem look2 {q:World} {c d:Int} {j l:Value} (u:q.heap[r]?=some (.map #[⟨.int .u8 c,j,0⟩,⟨.int .u8 d,l,1⟩] 2)) (k:Int) :
  (Instr.lookup 108 (.map (some r)) (.int .u8 k) false).run prog q=.ok (if (k==c)=true then j else if (k==d)=true then l else .slice none 0 0) q:=by
 have s:∀ t,(zeroValue 107).run prog t=.ok (.slice none 0 0) t:=λ_=>Zk
 unfold Instr.lookup
 cases h1:k==c <;> cases h2:k==d <;>
 simp[Sem.run_bind,run_underlying underlying108,u,getObj,Vn _ 9999,Instr.findKey,run_underlying underlying24,Instr.findNow,Instr.sameNow,Sem.run,s,h1,h2]
abbrev fnG:Value:=.func (.func 160) #[] #[]
abbrev fnL:Value:=.func (.func 101) #[] #[]
abbrev fnB:Value:=.func (.func 161) #[] #[]
def Ords (B:Nat) (X:World):Prop :=
 X.heap[B]?=some (.map #[⟨.int .u8 1,.slice (some ⟨B+1,0,none⟩) 2 2,0⟩,⟨.int .u8 2,.slice (some ⟨B+1+1,0,none⟩) 2 2,1⟩] 2) /\
 (X.cell? ⟨B+1,0,none⟩=some fnG/\X.cell? ⟨B+1,1,none⟩=some fnL)/\(X.cell? ⟨B+1+1,0,none⟩=some fnG/\X.cell? ⟨B+1+1,1,none⟩=some fnB)
def Us (f:Value):Obj:=.cells #[fnG,f] 110
def jbc (B:Nat):Obj:=.map #[⟨.int .u8 1,.slice (some ⟨B+1,0,none⟩) 2 2,0⟩] 1
def ordM2 (B:Nat):Obj:=.map #[⟨.int .u8 1,.slice (some ⟨B+1,0,none⟩) 2 2,0⟩,⟨.int .u8 2,.slice (some ⟨B+1+1,0,none⟩) 2 2,1⟩] 2
def ordW (w:World):World:=putObj ((putObj ((w.alloc (.map #[] 0)).alloc (Us fnL)) w.heap.size (jbc w.heap.size)).alloc (Us fnB)) w.heap.size (ordM2 w.heap.size)
theorem jip (c:World):Ords c.heap.size (ordW c)/\Bl c (ordW c):=by
 have s:((c.alloc (.map #[] 0)).alloc (Us fnL)).heap[c.heap.size]?=some (.map #[] 0):=(Below.heap_alloc _ _ _ (by simp)).trans (Go.heap_alloc_new c _)
 have t:((c.alloc (.map #[] 0)).alloc (Us fnL)).heap[c.heap.size+1]?=some (Us fnL):=by
  have:=Go.heap_alloc_new (c.alloc (.map #[] 0)) (Us fnL);rwa [World.size_alloc] at this
 have u:=QS (o:=jbc c.heap.size) s;have v:=(Qk ((c.alloc (.map #[] 0)).alloc (Us fnL)) (jbc c.heap.size) (show c.heap.size+1≠c.heap.size by omega)).trans t
 have d:(putObj ((c.alloc (.map #[] 0)).alloc (Us fnL)) c.heap.size (jbc c.heap.size)).heap.size=c.heap.size+1+1:=by simp[Xe]
 have j:=Go.heap_alloc_new (putObj ((c.alloc (.map #[] 0)).alloc (Us fnL)) c.heap.size (jbc c.heap.size)) (Us fnB);rw[d] at j;have w:=(Below.heap_alloc (putObj ((c.alloc (.map #[] 0)).alloc (Us fnL)) c.heap.size (jbc c.heap.size)) (Us fnB) _ (by rw[d];omega)).trans u;have x:=(Below.heap_alloc (putObj ((c.alloc (.map #[] 0)).alloc (Us fnL)) c.heap.size (jbc c.heap.size)) (Us fnB) _ (by rw[d];omega)).trans v;have y:=QS (o:=ordM2 c.heap.size) w;have l:=(Qk _ (ordM2 c.heap.size) (show c.heap.size+1≠c.heap.size by omega)).trans x;have q:=(Qk _ (ordM2 c.heap.size) (show c.heap.size+1+1≠c.heap.size by omega)).trans j;refine⟨⟨y,⟨?_,?_⟩,?_,?_⟩,?_⟩
 ·exact(cell_of_row _ _ 0 _ _ _ l)
 ·exact(cell_of_row _ _ 1 _ _ _ l)
 ·exact(cell_of_row _ _ 0 _ _ _ q)
 ·exact(cell_of_row _ _ 1 _ _ _ q)
 ·refine YG (Below.alloc (YG ((zk.alloc zj _).alloc (by simp) _) zj _) ?_ _) zj _;rw[d];omega
theorem Yx (c:World) :
  Cl 100 #[] c λe q=>e=.returned (.map (some c.heap.size))/\Ords c.heap.size q/\Bl c q:=by
 have s:=λ(t:TypeId) (c:World)=>run_makeMap (P:=prog) t c
 have u:=λ(o:Obj) v=>upd0 (X:=(c.alloc (.map #[] 0)).alloc o) (r:=c.heap.size) ((Below.heap_alloc _ o _ (by simp)).trans (Go.heap_alloc_new c _)) 1 v
 have w:=λ(j:Obj) v1 (l:Obj) v=>upd1 (X:=(putObj ((c.alloc (.map #[] 0)).alloc j) c.heap.size (.map #[⟨.int .u8 1,v1,0⟩] 1)).alloc l) (r:=c.heap.size) (k1:=1) (v1:=v1)
  ((Below.heap_alloc _ l _ (by rw[Xe];simp;omega)).trans (QS ((Below.heap_alloc _ j _ (by simp)).trans (Go.heap_alloc_new c _)))) 2 v rfl
 have d:=qh<|jip c;go_enter func100,ntmps100;go_wp2;go_ret;exact⟨rfl,d.o⟩
end Mono
namespace Limb
variable {W w:World} {b n1 n2:Nat} {t:TypeId} {x y:Value} {o1 o2:Nat->Int}
theorem Ut (d c:Int) (l:c≠0):d/(if c<0 then -((Int.gcd d c:Nat):Int) else ((Int.gcd d c:Nat):Int))=(Rat.divInt d c).num:=by
 rw[Rat.num_divInt,Int.gcd_comm c d];have j:((Int.gcd d c:Nat):Int) ∣ d:=Int.gcd_dvd_left d c
 rcases Int.lt_or_gt_of_ne l with h | h
 ·rw[if_pos h,Int.sign_eq_neg_one_of_neg h,Int.ediv_neg,Int.neg_mul,Int.one_mul,Int.neg_ediv_of_dvd j]
 ·rw[if_neg Zo,Int.sign_eq_one_of_pos h,Int.one_mul]
theorem Uu (d c:Int) (j:c≠0):c/(if c<0 then -((Int.gcd d c:Nat):Int) else ((Int.gcd d c:Nat):Int))=((Rat.divInt d c).den:Int):=by
 rw[Rat.den_divInt,if_neg j,Int.gcd_comm c d];have l:((Int.gcd d c:Nat):Int) ∣ c:=Int.gcd_dvd_right d c;rw[Int.natCast_ediv]
 rcases Int.lt_or_gt_of_ne j with h | h
 ·rw[if_pos h,Int.ediv_neg,<- Int.neg_ediv_of_dvd l]
  congr 1;omega
 ·rw[if_neg Zo]
  congr 1;omega
theorem jiq (j c:Int) (d:c≠0):(if c<0 then -((Int.gcd j c:Nat):Int) else ((Int.gcd j c:Nat):Int))≠0:=by
 have h:Int.gcd j c≠0:=λh=>d (Int.eq_zero_of_gcd_eq_zero_right h)
 split <;> omega
def okF (s1:Bool) (n1:Nat) (o1:Nat->Int) (s2:Bool) (n2:Nat) (o2:Nat->Int):Prop :=
 okN s1 n1 o1/\okN s2 n2 o2/\0<Jp s2 n2 o2/\Int.gcd (Jp s1 n1 o1) (Jp s2 n2 o2)=1
open Classical in
noncomputable def Xv (s1:Bool) (n1:Nat) (o1:Nat->Int) (s2:Bool) (n2:Nat) (o2:Nat->Int):Rat:=if okF s1 n1 o1 s2 n2 o2 then Rat.divInt (Jp s1 n1 o1) (Jp s2 n2 o2) else 0
theorem VH {l j:Int} (s:0<j) (q:Int.gcd l j=1):(Rat.divInt l j).num=l/\((Rat.divInt l j).den:Int)=j:=by
 have c:=Ut l j Zo;have d:=Uu l j Zo;rw[if_neg Zo,q] at c d;simp only[Int.natCast_one,Int.ediv_one] at c d;exact⟨c.symm,d.symm⟩
theorem XY {c:Bool} {d:Bool} (j:okF c n1 o1 d n2 o2):(Xv c n1 o1 d n2 o2).num=Jp c n1 o1/\((Xv c n1 o1 d n2 o2).den:Int)=Jp d n2 o2:=by
 unfold Xv;rw[if_pos j];exact VH j.2.2.1 j.2.2.2
theorem jaj {c:Bool} {d:Bool} (j:¬okF c n1 o1 d n2 o2):Xv c n1 o1 d n2 o2=0:=by
 unfold Xv;rw[if_neg j]
theorem rat_gcd (c:Rat):Int.gcd c.num (c.den:Int)=1:=by
 have:=c.reduced;show Nat.gcd c.num.natAbs ((c.den:Int)).natAbs=1;rw[Int.natAbs_natCast];exact this
theorem QE (c:Rat):(0:Int)<(c.den:Int):=by have:=c.den_pos;omega
open Go.RowKit Go.Sort
def Bx (w:World) (b:Nat) (t:TypeId) (x y:Value):Prop:=w.heap[b]?=some (.cells #[x,y] t (0,0))
def bxf (x y:Value) (i:Nat):Value:=if i=0 then x else y
theorem Bx.row (d:Bx w b t x y):w.rowIs b t 2 (bxf x y) :=
 ⟨#[x,y],d,rfl,λi c=>by
  match i,c with
  | 0,_=>rfl
  | 1,_=>rfl⟩
theorem Bx.Zn {f:Nat->Value} (A:w.rowIs b t 2 f):Bx w b t (f 0) (f 1):=by
 obtain⟨z,s,v,u⟩:=A;show w.heap[b]?=_;rw[s]
 have e:z=#[f 0,f 1]:=by
  apply Array.ext
  ·simpa using v
  ·intro i j l;have c:=u i Zo;rw[Array.getElem?_eq_getElem j] at c;have q:i<2:=Zo
   have d:#[f 0,f 1][i]?=some (f i):=by
    match i,q with
    | 0,_=>rfl
    | 1,_=>rfl
   rw[Array.getElem?_eq_getElem l] at d;simp only[Option.some.injEq] at c d;rw[c,d]
 rw[e]
theorem Bx.c0 (c:Bx w b t x y):w.cell? ⟨b,0,none⟩=some x:=cell_of_row _ _ _ _ _ _ c
theorem Bx.c1 (c:Bx w b t x y):w.cell? ⟨b,1,none⟩=some y:=cell_of_row _ _ _ _ _ _ c
theorem Bx.fz (d:Bx w b t x y) (c:Nat):w.frozen? ⟨b,c,none⟩=false:=d.row.frozen c
theorem Bx.lt (c:Bx w b t x y):b<w.heap.size:=c.row.lt
theorem Bx.of {c:World} (d:Bx w b t x y) (e:c.heap[b]?=w.heap[b]?):Bx c b t x y:=e.trans d
theorem Bx.below {j:Nat} (l:Bx W b t x y) (d:Below j W w) (c:b<j):Bx w b t x y:=l.of (d.block _ c)
theorem Bx.bl (d:Bx W b t x y) (c:Bl W w):Bx w b t x y:=d.below c d.lt
theorem Bx.alloc (c:Bx w b t x y) (o:Obj):Bx (w.alloc o) b t x y:=c.of (Below.heap_alloc _ _ _ c.lt)
theorem Bx.other (d:Bx w b t x y) {a:Addr} (c:b≠a.block) (v:Value):Bx (w.setCell a v) b t x y:=d.of (Below.heap_setCell _ _ _ _ c)
theorem Bx.oz (d:Bx w b t x y) {a:Addr} {v:Value} (c:b≠a.block:=by dsimp only;omega):Bx (w.setCell a v) b t x y:=d.other c v
theorem Bx.new (c:World) (d:TypeId) (j l:Value):Bx (c.alloc (.cells #[j,l] d)) c.heap.size d j l:=by show(c.heap.push _)[c.heap.size]?=_;simp
theorem Bx.Zu (d:World) (q:Obj) (c:TypeId) (j l:Value):Bx ((d.alloc q).alloc (.cells #[j,l] c)) (d.heap.size+1) c j l:=by have h:=Bx.new (d.alloc q) c j l;rw[World.size_alloc] at h;exact h
theorem Bx.new3 (d:World) (q s:Obj) (c:TypeId) (j l:Value):Bx (((d.alloc q).alloc s).alloc (.cells #[j,l] c)) (d.heap.size+1+1) c j l:=by have h:=Bx.Zu (d.alloc q) s c j l;rw[World.size_alloc] at h;exact h
theorem Bx.drewN (c:Bx w b t x y) (d:Nat):Bx (w.drewN d) b t x y:=c
theorem Bx.set0 (c:Bx w b t x y) (v:Value):Bx (w.setCell ⟨b,0,none⟩ v) b t v y:=Bx.Zn (c.row.set 0 v)
theorem Bx.set1 (c:Bx w b t x y) (v:Value):Bx (w.setCell ⟨b,1,none⟩ v) b t x v:=Bx.Zn (c.row.set 1 v)
theorem Bx.set (d:Bx w b t x y) (c v:Value):Bx ((w.setCell ⟨b,0,none⟩ c).setCell ⟨b,1,none⟩ v) b t c v:=(d.set0 c).set1 v
theorem Bx.all (c:Bx w b t x y):w.cell? ⟨b,0,none⟩=some x/\w.cell? ⟨b,1,none⟩=some y/\(∀ i,w.frozen? ⟨b,i,none⟩=false)/\b<w.heap.size:=⟨c.c0,c.c1,c.fz,c.lt⟩
end Limb
namespace Limb
variable {j la:Nat} {lp qp:Nat->Int} {A B:Int}
structure XG (A B:Int) (la kk:Nat) (lp qp:Nat->Int):Prop where
 dl:Dig lp la
 dq:Dig qp (la+1)
 sum:A=B*Jj qp (la+1)+Jj lp la
 lt:Jj lp la<B*(pw kk:Int)
 zero:∀ i,i<kk->qp i=0
structure ZR (A B:Int) (la j:Nat) (lp qp:Nat->Int):Prop where
 dl:Dig lp la
 dq:Dig qp (la+1)
 sum:A=B*Jj qp (la+1)+Jj lp la
 lt:B*(qp j*(pw j:Int))+Jj lp la<B*(pw (j+1):Int)
 zero:∀ i,i<j->qp i=0
theorem XG.inner (c:XG A B la (j+1) lp qp):ZR A B la j lp qp :=
 ⟨c.dl,c.dq,c.sum,by rw[c.zero j Zo,Int.zero_mul,Int.mul_zero,Int.zero_add];exact c.lt,λi d=>c.zero i Zo⟩
theorem ZR.outer (d:ZR A B la j lp qp) (c:Jj lp la<B*(pw j:Int)):XG A B la j lp qp:=⟨d.dl,d.dq,d.sum,c,d.zero⟩
theorem ZR.lt2 (l:ZR A B la j lp qp) (s:0<B) (d:j<la+1):Jj lp la<B*(pw (j+1):Int):=by
 have c:=(l.dq j d).1;have q:0<=B*(qp j*(pw j:Int)):=Int.mul_nonneg Zo (Int.mul_nonneg c Zo);have:=l.lt;omega
theorem ZR.step {c:Nat->Int} {g:Int} (d:ZR A B la j lp qp) (K:0<B) (q:j<la+1) (hg:0<=g) (l:Dig c la) (C:Jj c la=Jj lp la-g*B*(pw j:Int)) :
  qp j+g<1000000000/\ZR A B la j c (upd qp j (qp j+g)):=by
 have N:(0:Int)<(pw j:Int):=by have:=Q5 j;omega
 have I:=d.dq j q;have J:=(JB l).1
 have E:B*((qp j+g)*(pw j:Int))=B*(qp j*(pw j:Int))+g*B*(pw j:Int):=by
  rw[Int.add_mul,Int.mul_add]
  have:B*(g*(pw j:Int))=g*B*(pw j:Int):=by ac_rfl
  omega
 have D:=d.lt
 have s:qp j+g<1000000000:=by
  have u:B*((qp j+g)*(pw j:Int))<B*(1000000000*(pw j:Int)):=by
   have F:B*(1000000000*(pw j:Int))=B*(pw (j+1):Int):=by rw[JR,Int.natCast_mul,Int.mul_comm (pw j:Int)];rfl
   omega
  have v:=Int.lt_of_mul_lt_mul_left u Zo;exact Int.lt_of_mul_lt_mul_right v Zo
 refine⟨s,l,Y6 d.dq j ⟨Zo,s⟩,?_,?_,λi z=>by rw[upd_ne _ _ Zo];exact d.zero i z⟩
 ·rw[jai _ _ q,C];have G:=d.sum
  have H:B*(Jj qp (la+1)+(qp j+g-qp j)*(pw j:Int))=B*Jj qp (la+1)+g*B*(pw j:Int):=by
   rw[Int.mul_add,show qp j+g-qp j=g by omega]
   have:B*(g*(pw j:Int))=g*B*(pw j:Int):=by ac_rfl
   omega
  omega
 ·rw[upd_same];omega
theorem XG.done (c:XG A B la 0 lp qp) (s:0<B):Jj qp (la+1)=A/B/\Jj lp la=A%B:=by
 have d:=(JB c.dl).1;have l:=c.lt;rw[Qj] at l;have:=(Int.ediv_emod_unique s (a:=A) (r:=Jj lp la) (q:=Jj qp (la+1))).2 ⟨by have:=c.sum;omega,d,Zo⟩;exact⟨this.1.symm,this.2.symm⟩
theorem XG.start {kk:Nat} (c:Dig lp la) (d:Jj lp la<B*(pw kk:Int)):XG (Jj lp la) B la kk lp (λ_=>0) :=
 ⟨c,λi _=>Zo,by rw[ZH (λ_ _=>rfl)];omega,d,λ_ _=>rfl⟩
def QX (o:Nat->Int) (k i:Nat):Int:=if i<k then 0 else o (i-k)
theorem Yy {o:Nat->Int} {k n:Nat} (c:Dig o n):Dig (QX o k) (k+n):=by
 intro i d;unfold QX;split
 ·omega
 ·exact c _ Zo
theorem jgu (o:Nat->Int) (k n:Nat):Jj (QX o k) (k+n)=Jj o n*(pw k:Int):=by
 rw[QP,ZH (o:=QX o k) (n:=k) λi c=>by unfold QX;rw[if_pos c]];rw[Qb (o:=λi=>QX o k (k+i)) (o':=o) λi c=>by unfold QX;rw[if_neg Zo,show k+i-k=i by omega]];rw[Int.mul_comm];omega
theorem jgv {d m:Nat} {c:Nat->Int} (u:Dig c d) (s:d=m+1) (C:0<c m) (z:ZR A (Jj c d) la j lp qp) (E:j+d<=la) (q:0<Jj c d) :
  0<=Uc lp la (j+m)/(c m+1)/\Uc lp la (j+m)/(c m+1)<=999999999/\Uc lp la (j+m)/(c m+1)*Jj c d*(pw j:Int)<=Jj lp la:=by
 subst s;have b:=(JB (o:=c) (n:=m) λi D=>u i Zo).2;exact jgt (L:=Jj lp la) (V:=Jj c (m+1)) (v:=c m) (T:=Uc lp la (j+m)) (l:=m) (k:=j) (by rw[Jj,Int.add_mul];omega) C (z.lt2 q Zo) (topF_le z.dl Zo) (jio z.dl).1 q
end Limb
namespace Mono
open Go.RowKit Go.Sort
def XN (o:Int) (a b:Nat->Int):Int :=
 if o=1 then (if Js (JF a) (JF b)=0 then Xn a b else Js (JF a) (JF b))
 else if o=2 then (if Js (JF a) (JF b)=0 then (if Xn (XF b) (XF a)=0 then Xn a b else Xn (XF b) (XF a)) else Js (JF a) (JF b))
 else Xn a b
theorem Xc {c l:Nat} {s u:World} (q:Ords c s) (d:Below l s u) (v:c+1+1<l):Ords c u :=
 ⟨(d.block _ Zo).trans q.1,⟨(d.cell (p:=⟨c+1,0,none⟩) (by show c+1<l;omega)).trans q.2.1.1,(d.cell (p:=⟨c+1,1,none⟩) (by show c+1<l;omega)).trans q.2.1.2⟩,
  (d.cell (p:=⟨c+1+1,0,none⟩) (by show c+1+1<l;omega)).trans q.2.2.1,(d.cell (p:=⟨c+1+1,1,none⟩) (by show c+1+1<l;omega)).trans q.2.2.2⟩
theorem jd3 {c:Int} (d:¬c=0):(c != 0)=true:=by simpa using d
theorem bne_not {c:Int} (d:c=0):(c != 0)=false:=by simpa using d
theorem jdc (a b:Nat->Int) (w:World) (Z:Small a) (hb:Small b) :
  Cl 33 #[.int .u8 1,mvf a,mvf b] w λe w'=>e=.returned (.int .i64 (XN 1 a b))/\Bl w w':=by
 have HA:=qh Z;clear Z;have HB:=qh hb;clear hb;have Q:=qh<|boxes w 35 a b;go_enter func33,ntmps33;go_wp2_with fail
 refine(Yx _).mono ?_;rintro e w1 ⟨rfl,C,v⟩;have H:=Ju Q.o.1 v (by simp;omega);have I:=Ju Q.o.2 v (by simp);have P:=qh (zk.alloc zj _ |>.alloc (by go_size) _ |>.trans (v.mono (by go_size)):Bl w w1);simp only[World.size_alloc] at C;have N:=qh C;have lk:=look2 C.1 1;obtain⟨ad,ae,af,ag⟩:=ZK H;obtain⟨ax,ay,az,aA⟩:=ZK I;have R:=qh H;have U:=qh I;have q:=qh<|show w.heap.size+1+1+1+1<w1.heap.size from block_lt_of_cell C.2.2.1;clear C v H I;have c0:=N.o.2.1.1;have c1:=N.o.2.1.2;have ab:=qh<|show XN 1 a b=if Js (JF a) (JF b)=0 then Xn a b else Js (JF a) (JF b) from rfl;go_wp2_with fail
 refine wp_loop_rounds 3 ?_;rw[rounds_succ];go_wp2_with fail
 refine(Ur a b _ HA.o HB.o).mono ?_;rintro e w2 ⟨rfl,c⟩;have D:=qh<|Ju R.o c (Zh q);have F:=qh<|Ju U.o c (Zh q);have J:=qh<|P.o.trans (c.mono P.o.size);have O:=qh<|Xc N.o c (Zh q);have s:=qh<|Nat.lt_of_lt_of_le q.o c.size;obtain⟨ah,ai,aj,ak⟩:=ZK D.o;obtain⟨aB,aC,aD,aE⟩:=ZK F.o;clear c c0 c1;have c0:=O.o.2.1.1;have c1:=O.o.2.1.2;by_cases z:Js (JF a) (JF b)=0
 ·have aa:=qh z;have zb:=bne_not z;clear z;go_wp2_with fail
  rw[rounds_succ];go_wp2_with fail
  refine(Zc a b _).mono ?_;rintro e w3 ⟨rfl,d⟩;have E:=qh<|Ju D.o d (Zh s);have G:=qh<|Ju F.o d (Zh s);have K:=qh<|J.o.trans (d.mono J.o.size);have O3:=qh<|Xc O.o d (Zh s);have u:=qh<|Nat.lt_of_lt_of_le s.o d.size;obtain⟨am,an,ao,aq⟩:=ZK E.o;obtain⟨aF,aG,aH,aI⟩:=ZK G.o;clear d c0 c1;by_cases y:Xn a b=0
  ·have yb:=bne_not y;have aN:=qh y;clear y;go_wp2_with fail
   rw[rounds_succ];go_wp2_with fail
   refine(Zc a b _).mono ?_;rintro e w4 ⟨rfl,l⟩;have S:=qh<|Ju E.o l (Zh u);have Y:=qh<|Ju G.o l (Zh u);have G4:=qh<|K.o.trans (l.mono K.o.size);have O4:=qh<|Xc O3.o l (Zh u);have ac:=qh<|Nat.lt_of_lt_of_le u.o l.size;obtain⟨ar,au,av,aw⟩:=ZK S.o;obtain⟨aJ,aK,aL,aM⟩:=ZK Y.o;clear l;go_wp2;go_ret;exact⟨by rw[ab.o,if_pos aa.o];rfl,G4.o⟩
  ·have yb:=jd3 y;clear y;go_wp2;go_ret;exact⟨by rw[ab.o,if_pos aa.o];rfl,K.o⟩
 ·have zb:=jd3 z;have aa:=qh z;clear z;go_wp2;go_ret;exact⟨by rw[ab.o,if_neg aa.o];rfl,J.o⟩
theorem cmp_two (a b:Nat->Int) (w:World) (Z:Small a) (hb:Small b) :
  Cl 33 #[.int .u8 2,mvf a,mvf b] w λe w'=>e=.returned (.int .i64 (XN 2 a b))/\Bl w w':=by
 have HA:=qh Z;clear Z;have HB:=qh hb;clear hb;have Q:=qh<|boxes w 35 a b;go_enter func33,ntmps33;go_wp2_with fail
 refine(Yx _).mono ?_;rintro e w1 ⟨rfl,C,v⟩;have H:=Ju Q.o.1 v (by simp;omega);have I:=Ju Q.o.2 v (by simp);have P:=qh (zk.alloc zj _ |>.alloc (by go_size) _ |>.trans (v.mono (by go_size)):Bl w w1);simp only[World.size_alloc] at C;have N:=qh C;have lk:=look2 C.1 2;obtain⟨ae,af,ag,ah⟩:=ZK H;obtain⟨ay,az,aA,aB⟩:=ZK I;have R:=qh H;have U:=qh I;have q:=qh<|show w.heap.size+1+1+1+1<w1.heap.size from block_lt_of_cell C.2.2.1;clear C v H I;have c0:=N.o.2.2.1;have c1:=N.o.2.2.2;have ab:=qh<|show XN 2 a b=if Js (JF a) (JF b)=0 then (if Xn (XF b) (XF a)=0 then Xn a b else Xn (XF b) (XF a)) else Js (JF a) (JF b) from rfl;go_wp2_with fail
 refine wp_loop_rounds 3 ?_;rw[rounds_succ];go_wp2_with fail
 refine(Ur a b _ HA.o HB.o).mono ?_;rintro e w2 ⟨rfl,c⟩;have D:=qh<|Ju R.o c (Zh q);have F:=qh<|Ju U.o c (Zh q);have J:=qh<|P.o.trans (c.mono P.o.size);have O:=qh<|Xc N.o c (Zh q);have s:=qh<|Nat.lt_of_lt_of_le q.o c.size;obtain⟨ai,aj,ak,am⟩:=ZK D.o;obtain⟨aC,aD,aE,aF⟩:=ZK F.o;clear c c0 c1;have c0:=O.o.2.2.1;have c1:=O.o.2.2.2;by_cases z:Js (JF a) (JF b)=0
 ·have aa:=qh z;have zb:=bne_not z;clear z;go_wp2_with fail
  rw[rounds_succ];go_wp2_with fail
  refine(jcw a b _).mono ?_;rintro e w3 ⟨rfl,d⟩;have E:=qh<|Ju D.o d (Zh s);have G:=qh<|Ju F.o d (Zh s);have K:=qh<|J.o.trans (d.mono J.o.size);have O3:=qh<|Xc O.o d (Zh s);have u:=qh<|Nat.lt_of_lt_of_le s.o d.size;obtain⟨an,ao,aq,ar⟩:=ZK E.o;obtain⟨aG,aH,aI,aJ⟩:=ZK G.o;clear d c0 c1;by_cases y:Xn (XF b) (XF a)=0
  ·have yb:=bne_not y;have ac:=qh y;clear y;go_wp2_with fail
   rw[rounds_succ];go_wp2_with fail
   refine(Zc a b _).mono ?_;rintro e w4 ⟨rfl,l⟩;have S:=qh<|Ju E.o l (Zh u);have Y:=qh<|Ju G.o l (Zh u);have G4:=qh<|K.o.trans (l.mono K.o.size);have O4:=qh<|Xc O3.o l (Zh u);have ad:=qh<|Nat.lt_of_lt_of_le u.o l.size;obtain⟨au,av,aw,ax⟩:=ZK S.o;obtain⟨aK,aL,aM,aN⟩:=ZK Y.o;clear l;go_wp2;go_ret;exact⟨by rw[ab.o,if_pos aa.o,if_pos ac.o];rfl,G4.o⟩
  ·have yb:=jd3 y;have ac:=qh y;clear y;go_wp2;go_ret;exact⟨by rw[ab.o,if_pos aa.o,if_neg ac.o];rfl,K.o⟩
 ·have zb:=jd3 z;have aa:=qh z;clear z;go_wp2;go_ret;exact⟨by rw[ab.o,if_neg aa.o];rfl,J.o⟩
theorem cmp_else (a b:Nat->Int) (o:Int) (v:(o==1)=false) (z:(o==2)=false) (K:World) (I:Small a) (J:Small b) :
  Cl 33 #[.int .u8 o,mvf a,mvf b] K λe R=>e=.returned (.int .i64 (XN o a b))/\Bl K R:=by
 have HA:=qh I;clear I;have HB:=qh J;clear J;have D:=qh<|boxes K 35 a b;go_enter func33,ntmps33;go_wp2_with fail
 refine(Yx _).mono ?_;rintro e N ⟨rfl,q,l⟩;have s:=Ju D.o.1 l (by simp;omega);have u:=Ju D.o.2 l (by simp);have C:=qh (zk.alloc zj _ |>.alloc (by go_size) _ |>.trans (l.mono (by go_size)):Bl K N);simp only[World.size_alloc] at q;have P:=qh q;have Q:=look2 q.1 o;obtain⟨U,Y,Z,aa⟩:=ZK s;obtain⟨af,ag,ah,ai⟩:=ZK u;have E:=qh s;have G:=qh u;have d:=qh<|show K.heap.size+1+1+1+1<N.heap.size from block_lt_of_cell q.2.2.1;clear q l s u;have ao:=qh (show XN o a b=Xn a b by unfold XN;rw[if_neg (by simpa using v),if_neg (by simpa using z)]);simp only[v,z,Bool.false_eq_true,if_false] at Q;clear v z;go_wp2_with fail
 refine wp_loop_rounds 1 ?_;rw[rounds_succ];go_wp2_with fail
 refine(Zc a b _).mono ?_;rintro e w2 ⟨rfl,c⟩;have F:=qh<|Ju E.o c (Zh d);have H:=qh<|Ju G.o c (Zh d);have O:=qh<|C.o.trans (c.mono C.o.size);have O2:=qh<|Xc P.o c (Zh d);have S:=qh<|Nat.lt_of_lt_of_le d.o c.size;obtain⟨ab,ac,ad,ae⟩:=ZK F.o;obtain⟨aj,ak,am,an⟩:=ZK H.o;clear c;go_wp2;go_ret;exact⟨by rw[ao.o];rfl,O.o⟩
theorem Y7 (o:Int) (a b:Nat->Int) (s:World) (c:Small a) (d:Small b) :
  Cl 33 #[.int .u8 o,mvf a,mvf b] s λe u=>e=.returned (.int .i64 (XN o a b))/\Bl s u:=by
 by_cases l:o=1
 ·subst l;exact jdc a b s c d
 ·by_cases q:o=2
  ·subst q;exact cmp_two a b s c d
  ·exact cmp_else a b o (by simpa using l) (by simpa using q) s c d
end Mono
namespace Pol
structure Mo where
 x:Nat
 y:Nat
 z:Nat
 t:Nat
theorem Mo.eq_iff (a b:Mo):a=b↔a.x=b.x/\a.y=b.y/\a.z=b.z/\a.t=b.t:=by
 constructor
 ·rintro rfl;exact⟨rfl,rfl,rfl,rfl⟩
 ·rintro⟨c,d,l,q⟩;cases a;cases b;simp_all
instance:DecidableEq Mo:=λa b=>decidable_of_iff _ (Mo.eq_iff a b).symm
def Mo.one:Mo:=⟨0,0,0,0⟩
def Mo.mul (a b:Mo):Mo:=⟨a.x+b.x,a.y+b.y,a.z+b.z,a.t+b.t⟩
theorem Mo.mul_comm (a b:Mo):a.mul b=b.mul a:=by simp only[Mo.mul,Mo.mk.injEq];omega
theorem Mo.mul_assoc (a b c:Mo):(a.mul b).mul c=a.mul (b.mul c):=by simp only[Mo.mul,Mo.mk.injEq];omega
theorem Mo.one_mul (a:Mo):Mo.one.mul a=a:=by simp only[Mo.mul,Mo.one,Nat.zero_add]
theorem Mo.mul_one (a:Mo):a.mul Mo.one=a:=by simp only[Mo.mul,Mo.one,Nat.add_zero]
theorem Mo.mul_left_cancel {a b c:Mo} (d:a.mul b=a.mul c):b=c:=by
 simp only[Mo.mul,Mo.mk.injEq] at d;rw[Mo.eq_iff];omega
def Mo.lt (a b:Mo):Prop:=a.x<b.x\/(a.x=b.x/\(a.y<b.y\/(a.y=b.y/\(a.z<b.z\/(a.z=b.z/\a.t<b.t)))))
instance (a b:Mo):Decidable (a.lt b):=by unfold Mo.lt;infer_instance
theorem Mo.lt_irrefl (a:Mo):¬a.lt a:=by unfold Mo.lt;omega
theorem Mo.lt_trans {a b c:Mo} (d:a.lt b) (k:b.lt c):a.lt c:=by unfold Mo.lt at *;omega
theorem Mo.lt_asymm {a b:Mo} (c:a.lt b):¬b.lt a:=by unfold Mo.lt at *;omega
theorem Mo.jd4 (a b:Mo):a.lt b\/a=b\/b.lt a:=by rw[Mo.eq_iff];unfold Mo.lt;omega
abbrev Tm:=Mo × Rat
def ev:List Tm->(Mo->Rat)->Rat
 | [],_=>0
 | t :: r,f=>t.2*f t.1+ev r f
theorem Xy (f:Mo->Rat):ev [] f=0:=rfl
theorem Jq (c:Tm) (r:List Tm) (f:Mo->Rat):ev (c :: r) f=c.2*f c.1+ev r f:=rfl
theorem Xi (c r:List Tm) (f:Mo->Rat):ev (c++r) f=ev c f+ev r f:=by
 induction c with
 | nil=>rw[ze,Xy,Rat.zero_add]
 | cons t c ih=>rw[zi,Jq,Jq,ih,Rat.add_assoc]
theorem jak {c:List Tm} {f g:Mo->Rat} (l:∀ t∈c,f t.1=g t.1):ev c f=ev c g:=by
 induction c with
 | nil=>rfl
 | cons t c ih=>rw[Jq,Jq,l t (List.mem_cons_self ..),ih λq d=>l q (List.mem_cons_of_mem _ d)]
theorem ev_perm {c r:List Tm} (d:c.Perm r) (f:Mo->Rat):ev c f=ev r f:=by
 induction d with
 | nil=>rfl
 | cons t _ ih=>rw[Jq,Jq,ih]
 | swap s t c=>rw[Jq,Jq,Jq,Jq];grind
 | trans _ _ h1 h2=>rw[h1,h2]
theorem Uv (c:List Tm):ev c (λ_=>0)=0:=by
 induction c with
 | nil=>rfl
 | cons t c ih=>rw[Jq,ih];grind
theorem ev_add (c:List Tm) (f d:Mo->Rat):ev c (λm=>f m+d m)=ev c f+ev c d:=by
 induction c with
 | nil=>rw[Xy,Xy,Xy,Rat.add_zero]
 | cons t c ih=>rw[Jq,Jq,Jq,ih];grind
theorem jdd (c:List Tm) (d:Rat) (f:Mo->Rat):ev c (λm=>d*f m)=d*ev c f:=by
 induction c with
 | nil=>rw[Xy,Xy,Rat.mul_zero]
 | cons t c ih=>rw[Jq,Jq,ih];grind
theorem jir (c r:List Tm) (f:Mo->Mo->Rat):ev c (λa=>ev r (λb=>f a b))=ev r (λb=>ev c (λa=>f a b)):=by
 induction c with
 | nil=>simp only[Xy,Uv]
 | cons t c ih=>simp only[Jq,ih,ev_add,jdd]
def at_ (m:Mo):Mo->Rat:=λa=>if a=m then 1 else 0
def cf (l:List Tm) (m:Mo):Rat:=ev l (at_ m)
theorem Kc (d:Tm) (r:List Tm) (c:Mo):cf (d :: r) c=(if d.1=c then d.2 else 0)+cf r c:=by
 unfold cf;rw[Jq];unfold at_
 split <;> grind
theorem KH (c r:List Tm) (d:Mo):cf (c++r) d=cf c d+cf r d:=Xi c r _
theorem XH {d:List Tm} {m:Mo} (l:∀ t∈d,t.1≠m):cf d m=0:=by
 unfold cf;rw[jak (g:=λ_=>0) λt c=>by unfold at_;rw[if_neg (l t c)],Uv]
theorem once:∀ (L:List Mo),∃ d:List Mo,d.Nodup/\∀ m∈L,m∈d
 | []=>⟨[],List.nodup_nil,λ_ h=>h⟩
 | m :: L=>by
  obtain⟨d,l,q⟩:=once L;by_cases h:m∈d
  ·exact⟨d,l,λk c=>(List.mem_cons.1 c).elim (λe=>e▸h) (q k)⟩
  ·exact⟨m :: d,List.nodup_cons.2 ⟨h,l⟩,λk c=>(List.mem_cons.1 c).elim (λe=>e▸List.mem_cons_self ..) (λc=>List.mem_cons_of_mem _ (q k c))⟩
structure Canon (l:List Tm):Prop where
 falls:l.Pairwise (λs t=>t.1.lt s.1)
 non:∀ t∈l,t.2≠0
theorem Canon.nil:Canon []:=⟨List.Pairwise.nil,λ_ h=>(by cases h)⟩
theorem Canon.tail {q:Tm} {r:List Tm} (d:Canon (q :: r)):Canon r:=⟨(List.pairwise_cons.1 d.falls).2,λl c=>d.non l (List.mem_cons_of_mem _ c)⟩
theorem Canon.head {c:Tm} {r:List Tm} (d:Canon (c :: r)):∀ l∈r,l.1.lt c.1:=(List.pairwise_cons.1 d.falls).1
theorem Canon.Zv {c:Tm} {r:List Tm} (l:Canon (c :: r)):cf (c :: r) c.1=c.2:=by
 rw[Kc,if_pos rfl,XH λq d e=>by have:=l.head q d;rw[e] at this;exact Mo.lt_irrefl _ this,Rat.add_zero]
theorem Canon.cf_gt {l:Tm} {r:List Tm} (s:Canon (l :: r)) {q:Mo} (c:l.1.lt q):cf (l :: r) q=0 :=
 XH λu d e=>by
  rcases List.mem_cons.1 d with rfl | d
  ·rw[e] at c;exact Mo.lt_irrefl _ c
  ·have:=s.head u d;rw[e] at this;exact Mo.lt_asymm this c
theorem Canon.uniq:∀ {v r:List Tm},Canon v->Canon r->(∀ m,cf v m=cf r m)->v=r
 | [],[],_,_,_=>rfl
 | [],t :: r,_,h,e=>by
  have:=e t.1;rw[h.Zv] at this
  exact absurd this.symm (h.non t (List.mem_cons_self ..))
 | t :: v,[],h,_,e=>by
  have:=e t.1;rw[h.Zv] at this
  exact absurd this (h.non t (List.mem_cons_self ..))
 | s :: v,t :: r,h,k,e=>by
  rcases Mo.jd4 s.1 t.1 with q | c | l
  ·have:=e t.1;rw[k.Zv,h.cf_gt q] at this;exact absurd this.symm (k.non t (List.mem_cons_self ..))
  ·have d:=e s.1;rw[h.Zv,c,k.Zv] at d;have u:s=t:=Prod.ext c d;subst u
   have:=Canon.uniq h.tail k.tail λm=>by
    have:=e m;rw[Kc,Kc] at this;grind
   rw[this]
  ·have:=e s.1;rw[h.Zv,k.cf_gt l] at this;exact absurd this (h.non s (List.mem_cons_self ..))
theorem Canon.Qa {l:List Tm} (u:Canon l) {q:Tm} (d:q∈l):cf l q.1=q.2:=by
 induction l with
 | nil=>cases d
 | cons s l ih =>
  rcases List.mem_cons.1 d with rfl | c
  ·exact u.Zv
  ·rw[Kc,if_neg (λe=>by have:=u.head q c;rw[e] at this;exact Mo.lt_irrefl _ this),ih u.tail c,Rat.zero_add]
theorem Canon.Yj {l:List Tm} {m:Mo} (e:cf l m≠0):∃ s,(m,s)∈l:=by
 refine Classical.byContradiction λd=>e (XH λt q c=>d ⟨t.2,?_⟩)
 rw[<- c];exact q
end Pol
namespace Pol
def ins (t:Tm):List Tm->List Tm
 | []=>if t.2=0 then [] else [t]
 | s :: r=>if t.1=s.1 then (if t.2+s.2=0 then r else (s.1,t.2+s.2) :: r) else if s.1.lt t.1 then (if t.2=0 then s :: r else t :: s :: r) else s :: ins t r
theorem jis {l c:Tm}:∀ {d:List Tm},c∈ins l d->c.1=l.1\/c∈d
 | [],h=>by
  unfold ins at h;split at h
  ·cases h
  ·exact .inl (by rw[List.mem_singleton.1 h])
 | s :: r,h=>by
  unfold ins at h;split at h
  ·rename_i e;split at h
   ·exact .inr (List.mem_cons_of_mem _ h)
   ·rcases List.mem_cons.1 h with h | h
    ·exact .inl (by rw[h,e])
    ·exact .inr (List.mem_cons_of_mem _ h)
  ·split at h
   ·split at h
    ·exact .inr h
    ·rcases List.mem_cons.1 h with h | h
     ·exact .inl (by rw[h])
     ·exact .inr h
   ·rcases List.mem_cons.1 h with h | h
    ·exact .inr (by rw[h];exact List.mem_cons_self ..)
    ·exact(jis h).imp id (List.mem_cons_of_mem _)
theorem jbx (C:Tm):∀ {E:List Tm},Canon E->Canon (ins C E)
 | [],_=>by
  unfold ins;split
  ·exact Canon.nil
  ·rename_i h
   exact⟨List.pairwise_singleton _ _,λz D=>by rw[List.mem_singleton.1 D];exact h⟩
 | z :: r,h=>by
  unfold ins;split
  ·split
   ·exact h.tail
   ·rename_i q;exact⟨List.pairwise_cons.2 ⟨h.head,h.tail.falls⟩,λd c=>(List.mem_cons.1 c).elim (λe=>by rw[e];exact q) (λc=>h.tail.non d c)⟩
  ·rename_i u;split
   ·rename_i l;split
    ·exact h
    ·rename_i q;refine⟨List.pairwise_cons.2 ⟨λd c=>?_,h.falls⟩,λd c=>(List.mem_cons.1 c).elim (λe=>by rw[e];exact q) (λc=>h.non d c)⟩
     rcases List.mem_cons.1 c with rfl | c
     ·exact l
     ·exact Mo.lt_trans (h.head d c) l
   ·rename_i v
    have s:C.1.lt z.1:=((Mo.jd4 z.1 C.1).resolve_left λk=>v k).resolve_left λe=>u e.symm
    have k:=jbx C h.tail;refine⟨List.pairwise_cons.2 ⟨λd c=>?_,k.falls⟩,λd c=>(List.mem_cons.1 c).elim (λe=>by rw[e];exact h.non z (List.mem_cons_self ..)) (λc=>k.non d c)⟩
    rcases jis c with e | c
    ·rw[e];exact s
    ·exact h.head d c
theorem ins_ev (d:Tm) (f:Mo->Rat):∀ (l:List Tm),ev (ins d l) f=d.2*f d.1+ev l f
 | []=>by
  unfold ins;split
  ·rename_i h;rw[h,Xy];grind
  ·rw[Jq]
 | s :: r=>by
  unfold ins;split
  ·rename_i e;split
   ·rename_i c
    have c:d.2 = - s.2:=by grind
    rw[Jq,e,c];grind
   ·rw[Jq,Jq,e];grind
  ·split
   ·split
    ·rename_i c;rw[c];grind
    ·rw[Jq]
   ·rw[Jq,Jq,ins_ev d f r];grind
def nf (l:List Tm):List Tm:=l.foldr ins []
theorem Qn:∀ (c:List Tm),Canon (nf c)
 | []=>Canon.nil
 | t :: c=>jbx t (Qn c)
theorem jgw (f:Mo->Rat):∀ (c:List Tm),ev (nf c) f=ev c f
 | []=>rfl
 | t :: c=>by show ev (ins t (nf c)) f=_;rw[ins_ev,jgw f c,Jq]
theorem jbd (c:List Tm) (d:Mo):cf (nf c) d=cf c d:=jgw _ c
theorem nf_eq {d r:List Tm} (c:Canon d) (l:∀ m,cf d m=cf r m):nf r=d:=(Canon.uniq c (Qn r) λm=>by rw[l m,jbd]).symm
theorem jit {c:List Tm} (d:Canon c):nf c=c:=nf_eq d λ_=>rfl
theorem nf_same {c r:List Tm} (d:∀ f,ev c f=ev r f):nf c=nf r:=nf_eq (Qn r) λm=>by rw[jbd];exact(d _).symm
def JZ (c:Rat) (l:List Tm):List Tm:=l.map λt=>(t.1,t.2*c)
def mulL (p q:List Tm):List Tm:=p.flatMap λs=>q.map λt=>(s.1.mul t.1,s.2*t.2)
theorem KJ (c:Rat) (d:List Tm) (f:Mo->Rat):ev (JZ c d) f=c*ev d f:=by
 induction d with
 | nil=>show(0:Rat)=c*0;grind
 | cons t d ih=>show t.2*c*f t.1+ev (JZ c d) f=_;rw[ih,Jq];grind
theorem ev_row (c:Tm) (d:List Tm) (f:Mo->Rat):ev (d.map λt=>(c.1.mul t.1,c.2*t.2)) f=c.2*ev d (λb=>f (c.1.mul b)):=by
 induction d with
 | nil=>show(0:Rat)=c.2*0;grind
 | cons t d ih=>rw[List.map_cons,Jq,ih,Jq];grind
theorem Uw (c d:List Tm) (f:Mo->Rat):ev (mulL c d) f=ev c (λa=>ev d (λb=>f (a.mul b))):=by
 induction c with
 | nil=>rfl
 | cons s c ih=>show ev ((d.map _)++mulL c d) f=_;rw[Xi,ih,ev_row,Jq]
def Qv (p q:List Tm):List Tm:=nf (p++q)
def Qt (c:Rat) (p:List Tm):List Tm:=nf (JZ c p)
def Ql (p q:List Tm):List Tm:=nf (mulL p q)
def VI (p q:List Tm):List Tm:=Qv p (Qt (-1) q)
theorem QU (c d:List Tm) (f:Mo->Rat):ev (Qv c d) f=ev c f+ev d f:=by unfold Qv;rw[jgw,Xi]
theorem ZM (c:Rat) (d:List Tm) (f:Mo->Rat):ev (Qt c d) f=c*ev d f:=by unfold Qt;rw[jgw,KJ]
theorem Yk (c d:List Tm) (f:Mo->Rat):ev (Ql c d) f=ev c (λa=>ev d (λb=>f (a.mul b))):=by unfold Ql;rw[jgw,Uw]
theorem jde (c d:List Tm) (f:Mo->Rat):ev (VI c d) f=ev c f-ev d f:=by unfold VI;rw[QU,ZM];grind
theorem JL (c d:List Tm):Canon (Qv c d):=Qn _
theorem QY (c:Rat) (d:List Tm):Canon (Qt c d):=Qn _
theorem Qh (c d:List Tm):Canon (Ql c d):=Qn _
theorem QL (c d:List Tm):Canon (VI c d):=Qn _
theorem Qc {l q:List Tm} (c:Canon l) (d:Canon q) (s:∀ f,ev l f=ev q f):l=q:=Canon.uniq c d λ_=>s _
theorem jjm (c d:List Tm):Ql c d=Ql d c:=Qc (Qh _ _) (Qh _ _) λf=>by
 simp only[Yk];rw[jir];simp only[Mo.mul_comm]
theorem mulP_add (c d r:List Tm):Ql (Qv c d) r=Qv (Ql c r) (Ql d r):=Qc (Qh _ _) (JL _ _) λf=>by
 simp only[Yk,QU]

end Pol
end Go.Proofs.YthacfgmdihcffaaGreatDoor
