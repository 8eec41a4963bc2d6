/-
  The walks of Of, of limbs and of the document's answer: a number of 64 bits, as parts.
-/
import Derived.Test.YthacfgmdihcffaaGreatDoorPzTC
import Derived.Laws.OwnMore
set_option linter.unusedSimpArgs false
set_option linter.unusedVariables false
set_option maxHeartbeats 16000000
set_option maxRecDepth 100000
open Go.Proofs.Tryz
namespace Go.Proofs.YthacfgmdihcffaaGreatDoor
namespace Limb
open Go.RowKit Go.Sort Go.FreshH
variable {w:World} {L N T b base cap n:Nat}
theorem Vo (l j:Nat) (a b:Option Addr) (S U:Nat) (z:World) (I:Rd z a (Ja l) (dgi l)) (J:Rd z b (Ja j) (dgi j)) (hx:Ja l<=1000000000) (hy:Ja j<=1000000000) :
  Cl 231 #[.slice a (Ja l) S,.slice b (Ja j) U] z λe w'=>e=.returned (.int .i64 (Js l j))/\∃ Z,w'=z.drewN Z:=by
 obtain⟨k,H⟩:=VC (dgi l) (dgi j) (Ja l)
 have x:=qh (λ(i:Ja l=Ja j)=>by
  have G:=VD (Jr l _) (Jr j _) H;rw[Jz,show Jj (dgi j) (Ja l)=j by rw[i];exact Jz j] at G
  exact G)
 have A:=qh<|And.intro (λ(i:Ja l<Ja j)=>(JK (by have:=Y5 i;omega):Js l j = -1)) (λ(i:Ja j<Ja l)=>(JS (by have:=Y5 i;omega):Js l j=1));obtain⟨M,p,t⟩:=H;have EQ:=qh p;have v:=qh t;have B:=qh I;have C:=qh J;clear p t I J;obtain⟨g,q⟩:=gn (dgi l);obtain⟨h,s⟩:=gn (dgi j);rw[<- q] at x EQ v B;rw[<- s] at x EQ v C;clear q s
 generalize Js (l:Int) (j:Int)=r at *
 generalize Ja l=X at *
 generalize Ja j=Y at *
 rcases Nat.lt_trichotomy X Y with i | i | i
 ·have u:=qh<|A.o.1 i
  have V:((X:Int)==(Y:Int))=false:=by simp;omega
  go_enter func231,ntmps231;go_wp2;go_ret;exact⟨by rw[u.o];rfl,0,rfl⟩
 ·subst i;have u:=qh<|x.o rfl;go_enter func231,ntmps231;go_wp2;go_loopw [5] (λW wr=>∃ y:Nat,k<=y/\y<=X/\W=.int .i64 ((y:Int)-1)/\∃ Z,wr=z.drewN Z) (λW _=>(1+intOf W).toNat)
  case atStart=>exact⟨X,M,zj,rfl,0,rfl⟩
  case round =>
   obtain⟨y,hj,aa,rfl,m0,rfl⟩:=hrel;by_cases K:y=0
   ·subst K;have D:=qh (show r=0 by rw[u.o,if_pos Zo]);rw[show(((0:Nat):Int)-1) = -1 from rfl];go_wp2;go_ret;exact⟨by rw[D.o];rfl,m0,rfl⟩
   ·obtain⟨c,rfl⟩:∃ c,y=c+1:=⟨y-1,Zo⟩;rw[show(((c+1:Nat):Int)-1)=(c:Int) by omega];obtain⟨Q,o1,rfl,m⟩:=B.o.cells Zo;obtain⟨R,o2,rfl,o⟩:=C.o.cells Zo;have c1:z.cell? ⟨Q,o1+c,none⟩=some (.int .u32 (g c)):=m c Zo;have c2:z.cell? ⟨R,o2+c,none⟩=some (.int .u32 (h c)):=o c Zo;have O:c<X:=Zo;clear m o
    rcases Int.lt_trichotomy (g c) (h c) with f | f | f
    ·have d:k=c+1:=by
      rcases Nat.lt_or_ge c k with i | i
      ·omega
      ·have:=EQ.o c i O;omega
     have D:=qh (show r = -1 by rw[u.o,if_neg Zo,d];exact JK f);have E:decide (g c<h c)=true:=decide_eq_true f;clear d;go_wp2;go_quiet (fail);go_wp2;go_ret;exact⟨by rw[D.o];rfl,_,by rw[World.drewN_drewN]⟩
    ·have d:k<=c:=by
      rcases Nat.lt_or_ge c k with i | i
      ·have F:=v.o Zo;rw[show k-1=c by omega] at F;exact absurd f F
      ·exact i
     have E:decide (g c<h c)=false:=zo Zo;have d2:decide (g c>h c)=false:=zo Zo;have d3:decide (h c<g c)=false:=zo Zo;have P:¬g c<h c:=Zo;have n2:¬h c<g c:=Zo;clear f;go_wp2;go_quiet (fail);go_wp2;go_quiet (fail);go_wp2;go_roundw
     case rel=>exact⟨c,d,Zo,rfl,_,rfl⟩
     case measure=>simp[intOf];omega
    ·have d:k=c+1:=by
      rcases Nat.lt_or_ge c k with i | i
      ·omega
      ·have:=EQ.o c i O;omega
     have D:=qh (show r=1 by rw[u.o,if_neg Zo,d];exact JS f);have P:¬g c<h c:=Zo;have E:decide (g c<h c)=false:=zo P;clear d;go_wp2;go_quiet (fail);go_wp2;go_quiet (fail);go_wp2;go_ret;exact⟨by rw[D.o];rfl,_,by rw[World.drewN_drewN,World.drewN_drewN]⟩
 ·have u:=qh<|A.o.2 i
  have V:((X:Int)==(Y:Int))=false:=by simp;omega
  go_enter func231,ntmps231;go_wp2;go_ret;exact⟨by rw[u.o];rfl,0,rfl⟩
theorem num_any (t:Bool) (a:Option Addr) (n c:Nat) (o:Nat->Int) (j:World) (E:Rd j a n o) (g:Dig o n) (O:n<=1000000000) (y:n<=c) :
  Cl 194 #[.bool t,.slice a n c] j λe z=>e=.returned (Jv (t&&decide (0<Ja (Jj o n).toNat)) a (Ja (Jj o n).toNat) c)/\Bl j z:=by
 have HL:=qh<|JW g;have l:=qh (λH=>jfm (i:=H) g);have k:=qh<|jfn g
 generalize Ja (Jj o n).toNat=L at HL l k ⊢
 have x:=qh E;clear g E;have u:=qh<|Bx.new j 30 (.bool false) (.slice none 0 0);go_enter func194,ntmps194;go_wp2;go_loopw [1] (λv wr=>∃ h:Nat,L<=h/\h<=n/\v=.slice a h c/\∃ Q,wr=(j.alloc (.cells #[.bool false,.slice none 0 0] 30)).drewN Q) (λv _=>match v with | .slice _ h _=>h | _=>0)
 case atStart=>exact⟨n,HL.o,zj,rfl,0,rfl⟩
 case round =>
  obtain⟨h,M,F,rfl,s,rfl⟩:=hrel;have i:=u.o.drewN s;obtain⟨A,B,C,D⟩:=i.all;have f:=qh i;clear i;by_cases p:h=0
  ·obtain rfl:L=0:=Zo;subst p
   cases t with
   | false =>
    go_wp2
    all_goals
     refine bodyPost_ret (Je rfl _ _ _ _ _ _ _ rfl (f.o.set _ _) underlying30 rfl Zk) rfl ⟨rfl,?_⟩
     exact qg
   | true =>
    go_wp2
    all_goals
     refine bodyPost_ret (Je rfl _ _ _ _ _ _ _ rfl (f.o.set _ _) underlying30 rfl Zk) rfl ⟨rfl,?_⟩;exact qg
  ·obtain⟨d,rfl⟩:∃ d,h=d+1:=⟨h-1,Zo⟩;obtain⟨b,off,rfl,m⟩:=x.o.cells Zo;have c1:j.cell? ⟨b,off+d,none⟩=some (.int .u32 (o d)):=m d Zo;have K:b<j.heap.size:=block_lt_of_cell c1;have J:((d+1:Nat):Int)-1=(d:Int):=Zo;have P:((d+1:Nat):Int)>0:=Zo;clear m;by_cases q:d+1=L
   ·subst q;have r:o d≠0:=k.o Zo
    have G:(o d==0)=false:=by simpa using r
    have I:=qh (show decide (0<d+1)=true by simp)
    cases t with
    | false =>
     go_wp2
     all_goals
      refine bodyPost_ret (Je rfl _ _ _ _ _ _ _ rfl (f.o.set _ _) underlying30 rfl Zk) rfl ⟨rfl,?_⟩
      exact qg
    | true =>
     go_wp2
     all_goals
      refine bodyPost_ret (Je rfl _ _ _ _ _ _ _ rfl (f.o.set _ _) underlying30 rfl Zk) rfl ⟨by rw[I.o];rfl,?_⟩;exact qg
   ·have r:=l.o d Zo Zo;go_wp2;go_roundw
    case rel=>exact⟨d,Zo,Zo,rfl,s,rfl⟩
    case measure=>simp
theorem jju (ao aq:Option Addr) (g f cx cy:Nat) (c d:Nat->Int) (i:World) (l:Rd i ao g c) (m:Rd i aq f d) (O:Dig c g) (Q:Dig d f) (hX:g<=100000000) (hY:f<=100000000) :
  Cl 229 #[.slice ao g cx,.slice aq f cy] i λe Y=>∃ o,e=.returned (.slice (some ⟨i.heap.size,0,none⟩) (g+f) (g+f))/\Dig o (g+f)/\Jj o (g+f)=Jj c g*Jj d f /\
   Own 128 Y i.heap.size (some ⟨i.heap.size,0,none⟩) (g+f) (g+f) o/\Bl i Y:=by
 obtain⟨n,I⟩:=gn (g+f);rw[<- I];have G:=qh I;have ac:n<=200000000:=Zo;have ew:(g:Int)+(f:Int)=(n:Int):=Zo;have V:=run_make_row' (P:=prog) 28 128 (.int .u32 0) 4 underlying28 QQ rfl .i64 .i64 n Zo Zo;have B:=qh l;have K:=qh m;have DX:=qh O;have DY:=qh Q;clear l m O Q I;go_enter func229,ntmps229;go_wp2;go_loopw [6] (λu wr=>∃ k:Nat,k<=g/\u=.int .i64 k/\(∃ o,Zm c d f n k o/\wr.rowIs i.heap.size 128 n (uc o))/\Bl i wr) (λu _=>g-(intOf u).toNat)
 case atStart=>exact⟨0,Zo,rfl,⟨_,Zm.start _ _ _ _,World.rowIs_made i (.int .u32 0) n 128⟩,qg⟩
 case round =>
  obtain⟨k,hk,rfl,⟨o,S,j⟩,J⟩:=hrel;have x:=qh S;have M:=qh j;have r:=qh J;clear S j J V;by_cases D:k<g
  ·obtain⟨pb,po,rfl,_⟩:=(B.o.below r.o).cells Zo;go_wp2;go_loopw [7,8] (λon u F=>∃ a:Nat,a<=f/\u=.int .i64 a/\(∃ p v,on=.int .u64 v/\YT c d f n k a p v/\F.rowIs i.heap.size 128 n (uc p))/\Bl i F) (λ_ u _=>f-(intOf u).toNat)
   case atStart=>exact⟨0,Zo,rfl,⟨_,_,rfl,x.o.inner,M.o⟩,r.o⟩
   case round =>
    obtain⟨a,hj,rfl,⟨p,v,rfl,R,j⟩,J⟩:=hrel;have s:=qh R;have z:=qh j;have y:=qh J;have ab:=j.frozen;clear R j J;by_cases t:a<f
    ·obtain⟨qb,qo,rfl,U⟩:=(K.o.below y.o).cells Zo;have c2:wr.cell? ⟨qb,qo+a,none⟩=some (.int .u32 (d a)):=U a t;obtain⟨ad,ae,e',C⟩:=(B.o.below y.o).cells Zo
     cases e'
     have c1:wr.cell? ⟨pb,po+k,none⟩=some (.int .u32 (c k)):=C k D;have h:k+a<n:=Zh G;have c3:wr.cell? ⟨i.heap.size,k+a,none⟩=some (.int .u32 (p (k+a))):=z.o.cell (i:=k+a) h;have l:=DX.o k D;have m:=DY.o a t;obtain⟨A,H⟩:=s.o.step l m t (Zh G);rw[<- Int.add_assoc] at A H;have W:=s.o.dig (k+a) h;have E:=s.o.on0;have hb:=jh2 l m;have q:=qh H;have af:=IntWalk.u64_in (c k) Zo;have ag:=IntWalk.u64_in (d a) Zo;have ah:=IntWalk.u64_in (p (k+a)) Zo;have ai:=IntWalk.u64_in (c k*d a) Zo;have aj:=IntWalk.u64_in (v+c k*d a) Zo;have ak:=IntWalk.u64_in (v+c k*d a+p (k+a)) Zo;have t1:(v+c k*d a+p (k+a)).tmod 1000000000=(v+c k*d a+p (k+a))%1000000000:=Int.tmod_eq_emod_of_nonneg A.1;have t2:(v+c k*d a+p (k+a)).tdiv 1000000000=(v+c k*d a+p (k+a))/1000000000:=Int.tdiv_eq_ediv_of_nonneg A.1;have Z:=IntWalk.u32_in ((v+c k*d a+p (k+a))%1000000000) Zo;have am:=IntWalk.u64_in ((v+c k*d a+p (k+a))/1000000000) Zo;have an:=IntWalk.i64_in ((k:Int)+(a:Int)) Zo;clear U C H A W E hb l m;go_wp2;go_quiet (fail);go_wp2;go_roundw
     case rel=>exact⟨a+1,Zo,by go_num,⟨_,_,rfl,q.o,ZU (w:=wr.drewN nq) z.o _⟩,(QC y.o nq).sc⟩
     case measure=>simp[intOf];omega
    ·obtain rfl:a=f:=Zo;have h:k+a<n:=Zh G;obtain⟨X,aa⟩:∃ X,wr.cell? ⟨i.heap.size,k+a,none⟩=some X:=⟨_,z.o.cell (i:=k+a) h⟩;have E:=s.o.on0;have Z:=IntWalk.u32_in v Zo;have q:=qh<|s.o.row h;go_wp2;go_roundw
     case rel=>exact⟨k+1,Zo,by go_num,⟨_,q.o,ZU z.o _⟩,y.o.sc⟩
     case measure=>simp[intOf];omega
  ·obtain rfl:k=g:=Zo;go_wp2;go_ret;exact⟨o,rfl,x.o.dig,x.o.sum,Own.Xa M.o zj (λu hi=>by have:=x.o.dig u hi;omega),r.o⟩
def ShortR (w:World) (n:Nat) (X by':Int) (e:Ending) (w':World):Prop :=
 ∃ p,e=.returned (.tuple #[.slice (some ⟨w.heap.size,0,none⟩) n n,.int .u32 (X%by')])/\Dig p n/\Jj p n=X/by'/\Own 128 w' w.heap.size (some ⟨w.heap.size,0,none⟩) n n p/\Bl w w'
theorem jb1 (a:Option Addr) (n ab:Nat) (o:Nat->Int) (c:Int) (q:World) (G:Rd q a n o) (u:Dig o n) (hn:n<=200000000) (i:0<c) (h1:c<=999999999) :
  Cl 236 #[.slice a n ab,.int .u32 c] q (ShortR q n (Jj o n) c):=by
 obtain⟨nn,D⟩:=gn (n:Nat);have C:=run_make_row' (P:=prog) 28 128 (.int .u32 0) 4 underlying28 QQ rfl .i64 .i64 n Zo Zo;have K:=qh G;have r:=qh u;have wb:=IntWalk.u64_in c Zo;clear G u D;go_enter func236,ntmps236;go_wp2;go_loopw [6,7] (λO p wr=>∃ g:Nat,g<=n/\p=.int .i64 ((g:Int)-1)/\(∃ J rest,O=.int .u64 rest/\Q6 o n c g J rest/\wr.rowIs q.heap.size 128 n (uc J))/\Bl q wr) (λ_ p _=>(1+intOf p).toNat)
 case atStart=>exact⟨n,Zo,rfl,⟨_,_,rfl,Q6.start _ _ _,World.rowIs_made q (.int .u32 0) n 128⟩,qg⟩
 case round =>
  obtain⟨g,x,rfl,⟨J,rest,rfl,l,m⟩,Q⟩:=hrel;have h:=qh l;have k:=qh m;have j:=qh Q;have S:=m.frozen;have f:=l.bd i;clear l m Q C;by_cases y:g=0
  ·subst y;obtain⟨t,d2⟩:=h.o.done;have s:=qh<|And.intro t d2;have I:=IntWalk.u32_in rest Zo;rw[show(((0:Nat):Int)-1) = -1 from rfl];clear t d2;go_wp2;go_ret2;exact⟨J,by rw[<- s.o.2];rfl,h.o.dig,s.o.1,Own.Xa k.o zj (λg x=>by have:=h.o.dig g x;omega),j.o⟩
  ·obtain⟨d,rfl⟩:∃ d,g=d+1:=⟨g-1,Zo⟩;rw[show(((d+1:Nat):Int)-1)=(d:Int) by omega];obtain⟨b,off,rfl,v⟩:=(K.o.below j.o).cells Zo;have c1:wr.cell? ⟨b,off+d,none⟩=some (.int .u32 (o d)):=v d Zo;obtain⟨H,R⟩:∃ H,wr.cell? ⟨q.heap.size,d,none⟩=some H:=⟨_,k.o.cell (i:=d) Zo⟩;have E:=r.o d Zo;have F:=jdb i f E;have z:rest*1000000000<=999999998*1000000000:=Int.mul_le_mul_of_nonneg_right Zo Zo;have A:0<=rest*1000000000:=Int.mul_nonneg f.1 Zo;have B:0<=(rest*1000000000+o d)%c/\(rest*1000000000+o d)%c < c:=⟨Int.emod_nonneg _ Zo,Int.emod_lt_of_pos _ i⟩;have M:=qh<|h.o.step i r.o Zo;have ec:1000000000*rest=rest*1000000000:=Int.mul_comm _ _;have I:=IntWalk.u64_in (rest*1000000000) Zo;have W:=IntWalk.u64_in (o d) Zo;have X:=IntWalk.u64_in (rest*1000000000+o d) Zo;have t1:(rest*1000000000+o d).tdiv c=(rest*1000000000+o d)/c:=Int.tdiv_eq_ediv_of_nonneg Zo;have t2:(rest*1000000000+o d).tmod c=(rest*1000000000+o d)%c:=Int.tmod_eq_emod_of_nonneg Zo;have Y:=IntWalk.u64_in ((rest*1000000000+o d)/c) Zo;have Z:=IntWalk.u32_in ((rest*1000000000+o d)/c) Zo;have aa:=IntWalk.u64_in ((rest*1000000000+o d)%c) Zo;have V:¬c=0:=Zo;have U:d<n:=Zo;clear v E F z A B f;go_wp2;go_roundw
   case rel=>exact⟨d,Zo,rfl,⟨_,_,rfl,M.o,ZU k.o _⟩,j.o.sc⟩
   case measure=>simp[intOf];omega
theorem jjv (a:Option Addr) (n ab:Nat) (o:Nat->Int) (c:Int) (q:World) (G:Rd q a n o) (u:Dig o n) (hn:n<=200000000) (i:0<c) (h1:c<=999999999) :
  Cl 256 #[.slice a n ab,.int .u32 c] q (ShortR q n (Jj o n) c):=by
 obtain⟨nn,D⟩:=gn (n:Nat);have C:=run_make_row' (P:=prog) 28 128 (.int .u32 0) 4 underlying28 QQ rfl .i64 .i64 n Zo Zo;have K:=qh G;have r:=qh u;have wb:=IntWalk.u64_in c Zo;clear G u D;go_enter func256,ntmps256;go_wp2;go_loopw [7,8] (λO p wr=>∃ g:Nat,g<=n/\p=.int .i64 ((g:Int)-1)/\(∃ J rest,O=.int .u64 rest/\Q6 o n c g J rest/\wr.rowIs q.heap.size 128 n (uc J))/\Bl q wr) (λ_ p _=>(1+intOf p).toNat)
 case atStart=>exact⟨n,Zo,rfl,⟨_,_,rfl,Q6.start _ _ _,World.rowIs_made q (.int .u32 0) n 128⟩,qg⟩
 case round =>
  obtain⟨g,x,rfl,⟨J,rest,rfl,l,m⟩,Q⟩:=hrel;have h:=qh l;have k:=qh m;have j:=qh Q;have S:=m.frozen;have f:=l.bd i;clear l m Q C;by_cases y:g=0
  ·subst y;obtain⟨t,d2⟩:=h.o.done;have s:=qh<|And.intro t d2;have I:=IntWalk.u32_in rest Zo;rw[show(((0:Nat):Int)-1) = -1 from rfl];clear t d2;go_wp2;go_ret2;exact⟨J,by rw[<- s.o.2];rfl,h.o.dig,s.o.1,Own.Xa k.o zj (λg x=>by have:=h.o.dig g x;omega),j.o⟩
  ·obtain⟨d,rfl⟩:∃ d,g=d+1:=⟨g-1,Zo⟩;rw[show(((d+1:Nat):Int)-1)=(d:Int) by omega];obtain⟨b,off,rfl,v⟩:=(K.o.below j.o).cells Zo;have c1:wr.cell? ⟨b,off+d,none⟩=some (.int .u32 (o d)):=v d Zo;obtain⟨H,R⟩:∃ H,wr.cell? ⟨q.heap.size,d,none⟩=some H:=⟨_,k.o.cell (i:=d) Zo⟩;have E:=r.o d Zo;have F:=jdb i f E;have z:rest*1000000000<=999999998*1000000000:=Int.mul_le_mul_of_nonneg_right Zo Zo;have A:0<=rest*1000000000:=Int.mul_nonneg f.1 Zo;have B:0<=(rest*1000000000+o d)%c/\(rest*1000000000+o d)%c < c:=⟨Int.emod_nonneg _ Zo,Int.emod_lt_of_pos _ i⟩;have M:=qh<|h.o.step i r.o Zo;have ec:1000000000*rest=rest*1000000000:=Int.mul_comm _ _;have I:=IntWalk.u64_in (rest*1000000000) Zo;have W:=IntWalk.u64_in (o d) Zo;have X:=IntWalk.u64_in (rest*1000000000+o d) Zo;have t1:(rest*1000000000+o d).tdiv c=(rest*1000000000+o d)/c:=Int.tdiv_eq_ediv_of_nonneg Zo;have t2:(rest*1000000000+o d).tmod c=(rest*1000000000+o d)%c:=Int.tmod_eq_emod_of_nonneg Zo;have Y:=IntWalk.u64_in ((rest*1000000000+o d)/c) Zo;have Z:=IntWalk.u32_in ((rest*1000000000+o d)/c) Zo;have aa:=IntWalk.u64_in ((rest*1000000000+o d)%c) Zo;have V:¬c=0:=Zo;have U:d<n:=Zo;clear v E F z A B f;go_wp2;go_roundw
   case rel=>exact⟨d,Zo,rfl,⟨_,_,rfl,M.o,ZU k.o _⟩,j.o.sc⟩
   case measure=>simp[intOf];omega
theorem jjw (f:Nat->Int) (k:Nat) (a:-999999999<=f k/\f k<=999999999) (c:-1<=cS f k/\cS f k<=0) :
  (f k+1000000000+cS f k)%1000000000=cD f k/\1-(f k+1000000000+cS f k)/1000000000 = - cS f (k+1):=by
 unfold cD;rw[cS];omega
theorem jdk {f:Nat->Int} (c:∀ a,a<n->-999999999<=f a/\f a<=999999999):-1<=cS f n/\cS f n<=0:=by
 induction n with
 | zero=>show -1<=(0:Int)/\(0:Int)<=0;omega
 | succ n ih =>
  have d:=ih λa h=>c a Zo
  have g:=c n Zo;rw[cS];omega
theorem JM {v:Value} {a:List Value} (g:w.ownsRow base T 1 v n a) {d:Nat} (hg:v.ownBlock=some d):base<=d:=by
 rcases g.2 with ⟨rfl,_⟩ | ⟨f,cap,c,rfl,h,_⟩
 ·cases hg
 ·simp only[Value.ownBlock,Option.some.injEq] at hg;omega
theorem less_any (aj ak:Option Addr) (o F cx cy:Nat) (c h:Nat->Int) (s:World) (hx:Rd s aj o c) (hy:Rd s ak F h) (U:Dig c o) (V:Dig h F) (hX:o<=100000000) (af:F<=o) :
  Cl 232 #[.slice aj o cx,.slice ak F cy] s λe w'=>∃ v,e=.returned v/\w'.ownsRow s.heap.size 128 1 v o (ucs (cD λk=>part c o k-part h F k) o)/\Bl s w':=by
 obtain⟨i0,j,z,A,B⟩:=info_parts QQ;obtain⟨a,hF⟩:=gn (λk=>part c o k-part h F k:Nat->Int);rw[<- hF];have D:=qh hF;have R:=qh hx;have S:=qh hy;have P:=qh U;have Q:=qh V;clear hx hy U V hF;go_enter func232,ntmps232;go_wp2;go_loopw [5,6,7] (λv ow m wr=>∃ k:Nat,k<=o/\m=.int .i64 k/\ow=.int .u32 (- cS a k)/\wr.ownsRow s.heap.size 128 1 v k (ucs (cD a) k)/\Bl s wr) (λ_ _ m _=>o-(intOf m).toNat)
 case atStart=>exact⟨0,Zo,rfl,rfl,Own.Ke _ _ _,qg⟩
 case round =>
  obtain⟨k,hk,rfl,rfl,Z,Y⟩:=hrel;have q:=qh Z;have HG:=qh Y;clear Z Y;by_cases l:k<o
  ·obtain⟨xb,xo,rfl,H⟩:=(R.o.below HG.o).cells Zo;have c1:wr.cell? ⟨xb,xo+k,none⟩=some (.int .u32 (c k)):=H k l;have ag:=P.o k l
   have bd:∀ m,m<o->-999999999<=a m/\a m<=999999999:=λm j=>by
    have h1:=P.o m j;simp only[D.o,part,if_pos j];split
    ·have W:=Q.o m Zo;omega
    ·omega
   have ab:=jdk (f:=a) (n:=k) λm j=>bd m Zo
   have ae:=bd k l;obtain⟨u,x⟩:=jjw a k Zo ab;have x:=qh x;obtain⟨t,J⟩:=gn (- cS a k);have ai:0<=t/\t<=1:=Zo;have u1:=IntWalk.u32_in (c k+1000000000) Zo;have u2:=IntWalk.u32_in (c k+1000000000-t) Zo;rw[<- J];by_cases p:k<F
   ·have ah:=Q.o k p
    have X:a k=c k-h k:=by simp only[D.o,part,if_pos l,if_pos p]
    obtain⟨yb,yo,rfl,y⟩:=(S.o.below HG.o).cells Zo;have c2:wr.cell? ⟨yb,yo+k,none⟩=some (.int .u32 (h k)):=y k p;have u3:=IntWalk.u32_in (c k+1000000000-t-h k) Zo
    have t1:(c k+1000000000-t-h k).tmod 1000000000=cD a k:=by rw[Int.tmod_eq_emod_of_nonneg Zo,<- u];congr 1;omega
    have t2:(c k+1000000000-t-h k).tdiv 1000000000=1+cS a (k+1):=by
     have W:=x.o;have e:c k+1000000000-t-h k=a k+1000000000+cS a k:=Zo;rw[Int.tdiv_eq_ediv_of_nonneg Zo,e];omega
    have I:=jdk (f:=a) (n:=k+1) λm j=>bd m Zo
    have aa:=QM a (k+1) k Zo;have u4:=IntWalk.u32_in (cD a k) Zo;have u5:=IntWalk.u32_in (1+cS a (k+1)) Zo;have K:=IntWalk.u32_in (1-(1+cS a (k+1))) Zo;have G:1-(1+cS a (k+1)) = - cS a (k+1):=Zo;rw[G] at K;clear H y bd u J;go_wp2_with (first | (at_builtin;refine wpList_append_own _ rfl _ _ 28 rfl s.heap.size 128 i0 (.int .u32 0) 1 4 underlying28 j z A B rfl Ze _ _ _ rfl (q.o.alloc _) ⟨wr.heap.size,0,none⟩ 1 1 [.int .u32 (cD a k)] rfl rfl ?c1 ?c2 ?c3 ?c4 ?c5 ?_))
    case c1 =>
     intro ac ad i
     match ac,i with
     | 0,i=>simp at i;subst i;simp[Addr.add]
    case c2=>intro ad r;simp at r;subst r;rfl
    case c3=>unfold maxLen;omega
    case c4=>omega
    case c5=>have:=HG.o.size;simp;omega
    intro M O g d _;have E:=qh (show O.ownsRow s.heap.size 128 1 M (k+1) (ucs (cD a) (k+1)) by rw[Q0];exact g);have C:=qh<|(HG.o.alloc HG.o.size _).grown d (by have:=HG.o.size;simp;omega) (λam hg=>JM q.o hg);clear g d;go_wp2;go_roundw
    case rel=>exact⟨k+1,Zo,by go_num,rfl,E.o,C.o⟩
    case measure=>simp[intOf];omega
   ·have X:a k=c k:=by simp only[D.o,part,if_pos l,if_neg p];omega
    have t1:(c k+1000000000-t).tmod 1000000000=cD a k:=by rw[Int.tmod_eq_emod_of_nonneg Zo,<- u];congr 1;omega
    have t2:(c k+1000000000-t).tdiv 1000000000=1+cS a (k+1):=by
     have W:=x.o;have e:c k+1000000000-t=a k+1000000000+cS a k:=Zo;rw[Int.tdiv_eq_ediv_of_nonneg Zo,e];omega
    have I:=jdk (f:=a) (n:=k+1) λm j=>bd m Zo
    have aa:=QM a (k+1) k Zo;have u4:=IntWalk.u32_in (cD a k) Zo;have u5:=IntWalk.u32_in (1+cS a (k+1)) Zo;have K:=IntWalk.u32_in (1-(1+cS a (k+1))) Zo;have G:1-(1+cS a (k+1)) = - cS a (k+1):=Zo;rw[G] at K;clear H bd u J;go_wp2_with (first | (at_builtin;refine wpList_append_own _ rfl _ _ 28 rfl s.heap.size 128 i0 (.int .u32 0) 1 4 underlying28 j z A B rfl Ze _ _ _ rfl (q.o.alloc _) ⟨wr.heap.size,0,none⟩ 1 1 [.int .u32 (cD a k)] rfl rfl ?c1 ?c2 ?c3 ?c4 ?c5 ?_))
    case c1 =>
     intro ac ad i
     match ac,i with
     | 0,i=>simp at i;subst i;simp[Addr.add]
    case c2=>intro ad r;simp at r;subst r;rfl
    case c3=>unfold maxLen;omega
    case c4=>omega
    case c5=>have:=HG.o.size;simp;omega
    intro M O g d _;have E:=qh (show O.ownsRow s.heap.size 128 1 M (k+1) (ucs (cD a) (k+1)) by rw[Q0];exact g);have C:=qh<|(HG.o.alloc HG.o.size _).grown d (by have:=HG.o.size;simp;omega) (λam hg=>JM q.o hg);clear g d;go_wp2;go_roundw
    case rel=>exact⟨k+1,Zo,by go_num,rfl,E.o,C.o⟩
    case measure=>simp[intOf];omega
  ·obtain rfl:k=o:=Zo;go_wp2;go_ret;exact⟨_,rfl,q.o,HG.o⟩
theorem cf_wide (a:Array Value) (c:World):(callFunc 259 a).run prog c=.ok (.enter 259 a) c:=by kernel_rfl
theorem wideFn (g:World) (h i:Nat) (t:Option Addr) (f:Nat->Int) (c x:Nat) (a:Int) (k:Nat) (c1:g.cell? ⟨h,0,none⟩=some (.slice t c x)) (c2:g.cell? ⟨i,0,none⟩=some (.int .u32 a)) (j:Rd g t c f)
  (p:c<=1000000000) (o:k<=1000000000) (d:0<=a/\a<=999999999) (l:0<=part f c k/\part f c k<=999999999) :
  Cl 259 #[.int .i64 k,.pointer (some ⟨h,0,none⟩),.pointer (some ⟨i,0,none⟩)] g λe v=>e=.returned (.int .i64 (part f c k*a))/\Bl g v:=by
 have y:=qh (λ(m:World) (B:∃ q,m=g.drewN q)=>YU t c x f k m (by obtain⟨q,rfl⟩:=B;exact j.drewN q) p o);have r:part f c k*a<=999999999*999999999:=Int.mul_le_mul l.2 d.2 d.1 Zo;have s:0<=part f c k*a:=Int.mul_nonneg l.1 d.1;have z:=IntWalk.i64_in (part f c k*a) Zo;have A:=IntWalk.i64_in a Zo
 generalize part f c k=u at *
 clear j r s;go_enter func259,ntmps259;go_wp2;go_quiet (first | with_reducible exact Yn (y.o _ ⟨_,rfl⟩));go_wp2;go_ret;exact⟨rfl,QC zk _⟩
theorem jfs (a:Option Addr) (n y:Nat) (o:Nat->Int) (c:Int) (g:World) (E:Rd g a n o) (t:Dig o n) (X:n<=200000000) (j:0<=c/\c<=999999999) :
  Cl 249 #[.slice a n y,.int .u32 c] g λe I=>∃ R H,e=.returned (.slice (some ⟨R,0,none⟩) (n+1) (n+1))/\Dig H (n+1)/\Jj H (n+1)=Jj o n*c/\Own 128 I g.heap.size (some ⟨R,0,none⟩) (n+1) (n+1) H/\Bl g I:=by
 have x:∀ k,0<=part o n k/\part o n k<=999999999:=by
  intro k;unfold part;split
  ·have:=t k Zo;omega
  ·omega
 obtain⟨N,v⟩:=gn (n+1)
 have p:Jj (λk=>part o n k*c) N=Jj o n*c:=by rw[XW,Q4 _ Zo]
 have l:=JB t
 have q:Jj o n*c < (pw N:Int):=by
  rw[v,JR];have u:Jj o n*c<=Jj o n*999999999:=Int.mul_le_mul_of_nonneg_left j.2 l.1;omega
 have m:=(Yi (f:=λk=>part o n k*c) (n:=N) (by rw[p];exact Int.mul_nonneg l.1 j.1) (by rw[p];exact q)).2;have P:=qh<|m.trans p;have O:=qh E;obtain⟨B,i⟩:=gn ((g.alloc (.cells #[.slice a n y] 28)).alloc (.cells #[.int .u32 c] 128));have h:=bq i ((zk.alloc (by go_size) _).alloc (by go_size) _)
 have F:B.cell? ⟨g.heap.size,0,none⟩=some (.slice a n y):=by
  have K:B.heap[g.heap.size]?=some (.cells #[.slice a n y] 28 (0,0)):=by
   rw[i,Below.heap_alloc _ _ _ (by simp)];exact heap_alloc_new g _
  rw[cell_of_row _ _ _ _ _ _ K];rfl
 have G:B.cell? ⟨g.heap.size+1,0,none⟩=some (.int .u32 c):=by
  have K:=heap_alloc_new (g.alloc (.cells #[.slice a n y] 28)) (.cells #[.int .u32 c] 128);rw[World.size_alloc,<- i] at K;rw[cell_of_row _ _ _ _ _ _ K];rfl
 have D:g.heap.size+1<B.heap.size:=by rw[i];simp
 have z:=qh (KZ 259 #[.pointer (some ⟨g.heap.size,0,none⟩),.pointer (some ⟨g.heap.size+1,0,none⟩)] N (λk=>part o n k*c) 0 c B Zo cf_wide
  (λk W J d=>wideFn J g.heap.size (g.heap.size+1) a o n y c k ((d.cell (p:=⟨g.heap.size,0,none⟩) Zd).trans F) ((d.cell (p:=⟨g.heap.size+1,0,none⟩) Zd).trans G)
   (O.o.below (h.trans (d.mono h.size))) Zo Zo j (x k))
  (λk _=>by
   have u:=x k;have U:part o n k*c<=999999999*c:=Int.mul_le_mul_of_nonneg_right u.2 j.1;have V:0<=part o n k*c:=Int.mul_nonneg u.1 j.1
   omega) Zo Zo Zo Zo)
 have Q:=qh i;have r:=qh h
 have S:IntKind.i64.wrap ((n:Int)+1)=(N:Int):=by rw[IntWalk.i64_in _ Zo];omega
 have s:=qh v;clear E t x p l q m i h F G D v;go_enter func249,ntmps249;go_wp2_with fail
 rw[<- Q.o];refine z.o.mono ?_;rintro e J ⟨rfl,C,d⟩;have M:=qh C;have A:=qh<|r.o.trans (d.mono r.o.size);clear C d z;go_wp2;go_ret;refine⟨_,cD (λk=>part o n k*c),by rw[<- s.o];rfl,QM _ _,by rw[<- s.o];exact P.o,?_,A.o⟩;rw[<- s.o];exact M.o.mono r.o.size
theorem more_any (ao aq:Option Addr) (O J cx cy u:Nat) (h i:Nat->Int) (B:World) (hx:Rd B ao O h) (hy:Rd B aq J i) (P:Dig h O) (Q:Dig i J) (hX:O<=100000000) (hY:J<=100000000) (ai:O<=u) (aj:J<=u) (ak:u=O\/u=J) :
  Cl 230 #[.slice ao O cx,.slice aq J cy] B λe w'=>∃ v ab,e=.returned v/\u<=ab/\ab<=u+1/\cS (λk=>part h O k+part i J k) ab=0/\w'.ownsRow B.heap.size 128 1 v ab (ucs (cD λk=>part h O k+part i J k) ab)/\Bl B w':=by
 obtain⟨R,G,D,E,F⟩:=info_parts QQ;obtain⟨d,hF⟩:=gn (λk=>part h O k+part i J k:Nat->Int);rw[<- hF];have I:=qh hF;have S:=qh hx;have U:=qh hy;have DX:=qh P;have DY:=qh Q
 have BD:=qh (show ∀ z,0*999999999<=d z/\d z<=2*999999999 from λz=>by
  simp only[I.o,part]
  split <;> split
  ·have:=P z Zo;have:=Q z Zo;omega
  ·have:=P z Zo;omega
  ·have:=Q z Zo;omega
  ·omega)
 clear hx hy P Q hF;go_enter func230,ntmps230;go_wp2;go_loopw [5,6,7] (λv ow z wr=>∃ k:Nat,k<=u+1/\(k=u+1->cS d k=0)/\z=.int .i64 k/\ow=.int .u32 (cS d k)/\wr.ownsRow B.heap.size 128 1 v k (ucs (cD d) k)/\Bl B wr) (λ_ _ z _=>u+1-(intOf z).toNat)
 case atStart=>exact⟨0,Zo,λW=>Zo,rfl,rfl,Own.Ke _ _ _,qg⟩
 case round =>
  obtain⟨k,hk,V,rfl,rfl,hO,hG⟩:=hrel;have t:=qh hO;have HG:=qh hG;have am:=cS_bd (f:=d) (lo:=0) (hi:=2) (n:=k) Zo Zo (λz _=>BD.o z);have ag:=cS_bd (f:=d) (lo:=0) (hi:=2) (n:=k+1) Zo Zo (λz _=>BD.o z);obtain⟨s,H⟩:=gn (cS d k);rw[<- H];clear hO hG;by_cases l:k<O
  ·by_cases j:k<J
   ·have o:d k=h k+i k:=by simp only[I.o,part,if_pos l,if_pos j]
    have ac:=DX.o k l;obtain⟨xb,xo,rfl,p⟩:=(S.o.below HG.o).cells Zo;have c1:wr.cell? ⟨xb,xo+k,none⟩=some (.int .u32 (h k)):=p k l;clear p;have u1:=IntWalk.u32_in (s+h k) Zo;have ad:=DY.o k j;obtain⟨yb,yo,rfl,p⟩:=(U.o.below HG.o).cells Zo;have c2:wr.cell? ⟨yb,yo+k,none⟩=some (.int .u32 (i k)):=p k j;clear p;have u2:=IntWalk.u32_in (s+h k+i k) Zo;have e:s+h k+i k=d k+cS d k:=Zo
    have Z:(s+h k+i k).tmod 1000000000=cD d k:=by rw[Int.tmod_eq_emod_of_nonneg Zo,e];rfl
    have t2:(s+h k+i k).tdiv 1000000000=cS d (k+1):=by rw[Int.tdiv_eq_ediv_of_nonneg Zo,e];rfl
    have K:=QM d (k+1) k Zo;have u4:=IntWalk.u32_in (cD d k) Zo
    have q:k+1=u+1->cS d (k+1)=0:=λW=>by rw[cS];omega
    have m:=qh q;clear e H o q;go_wp2_with (first | (at_builtin;refine wpList_append_own _ rfl _ _ 28 rfl B.heap.size 128 R (.int .u32 0) 1 4 underlying28 G D E F rfl Ze _ _ _ rfl (t.o.alloc _) ⟨wr.heap.size,0,none⟩ 1 1 [.int .u32 (cD d k)] rfl rfl ?c1 ?c2 ?c3 ?c4 ?c5 ?_))
    case c1 =>
     intro Y aa g
     match Y,g with
     | 0,g=>simp at g;subst g;simp[Addr.add]
    case c2=>intro aa r;simp at r;subst r;rfl
    case c3=>unfold maxLen;omega
    case c4=>omega
    case c5=>have:=HG.o.size;simp;omega
    intro A C c a _;have y:=qh (show C.ownsRow B.heap.size 128 1 A (k+1) (ucs (cD d) (k+1)) by rw[Q0];exact c);have x:=qh<|(HG.o.alloc HG.o.size _).grown a (by have:=HG.o.size;simp;omega) (λaf hg=>JM t.o hg);clear c a;go_wp2;go_roundw
    case rel=>exact⟨k+1,Zo,m.o,by go_num,rfl,y.o,x.o⟩
    case measure=>simp[intOf];omega
   ·have o:d k=h k+0:=by simp only[I.o,part,if_pos l,if_neg j]
    have ac:=DX.o k l;obtain⟨xb,xo,rfl,p⟩:=(S.o.below HG.o).cells Zo;have c1:wr.cell? ⟨xb,xo+k,none⟩=some (.int .u32 (h k)):=p k l;clear p;have u1:=IntWalk.u32_in (s+h k) Zo;have e:s+h k=d k+cS d k:=Zo
    have Z:(s+h k).tmod 1000000000=cD d k:=by rw[Int.tmod_eq_emod_of_nonneg Zo,e];rfl
    have t2:(s+h k).tdiv 1000000000=cS d (k+1):=by rw[Int.tdiv_eq_ediv_of_nonneg Zo,e];rfl
    have K:=QM d (k+1) k Zo;have u4:=IntWalk.u32_in (cD d k) Zo
    have q:k+1=u+1->cS d (k+1)=0:=λW=>by rw[cS];omega
    have m:=qh q;clear e H o q;go_wp2_with (first | (at_builtin;refine wpList_append_own _ rfl _ _ 28 rfl B.heap.size 128 R (.int .u32 0) 1 4 underlying28 G D E F rfl Ze _ _ _ rfl (t.o.alloc _) ⟨wr.heap.size,0,none⟩ 1 1 [.int .u32 (cD d k)] rfl rfl ?c1 ?c2 ?c3 ?c4 ?c5 ?_))
    case c1 =>
     intro Y aa g
     match Y,g with
     | 0,g=>simp at g;subst g;simp[Addr.add]
    case c2=>intro aa r;simp at r;subst r;rfl
    case c3=>unfold maxLen;omega
    case c4=>omega
    case c5=>have:=HG.o.size;simp;omega
    intro A C c a _;have y:=qh (show C.ownsRow B.heap.size 128 1 A (k+1) (ucs (cD d) (k+1)) by rw[Q0];exact c);have x:=qh<|(HG.o.alloc HG.o.size _).grown a (by have:=HG.o.size;simp;omega) (λaf hg=>JM t.o hg);clear c a;go_wp2;go_roundw
    case rel=>exact⟨k+1,Zo,m.o,by go_num,rfl,y.o,x.o⟩
    case measure=>simp[intOf];omega
  ·by_cases j:k<J
   ·have o:d k=0+i k:=by simp only[I.o,part,if_neg l,if_pos j]
    have ad:=DY.o k j;obtain⟨yb,yo,rfl,p⟩:=(U.o.below HG.o).cells Zo;have c2:wr.cell? ⟨yb,yo+k,none⟩=some (.int .u32 (i k)):=p k j;clear p;have u2:=IntWalk.u32_in (s+i k) Zo;have e:s+i k=d k+cS d k:=Zo
    have Z:(s+i k).tmod 1000000000=cD d k:=by rw[Int.tmod_eq_emod_of_nonneg Zo,e];rfl
    have t2:(s+i k).tdiv 1000000000=cS d (k+1):=by rw[Int.tdiv_eq_ediv_of_nonneg Zo,e];rfl
    have K:=QM d (k+1) k Zo;have u4:=IntWalk.u32_in (cD d k) Zo
    have q:k+1=u+1->cS d (k+1)=0:=λW=>by rw[cS];omega
    have m:=qh q;clear e H o q;go_wp2_with (first | (at_builtin;refine wpList_append_own _ rfl _ _ 28 rfl B.heap.size 128 R (.int .u32 0) 1 4 underlying28 G D E F rfl Ze _ _ _ rfl (t.o.alloc _) ⟨wr.heap.size,0,none⟩ 1 1 [.int .u32 (cD d k)] rfl rfl ?c1 ?c2 ?c3 ?c4 ?c5 ?_))
    case c1 =>
     intro Y aa g
     match Y,g with
     | 0,g=>simp at g;subst g;simp[Addr.add]
    case c2=>intro aa r;simp at r;subst r;rfl
    case c3=>unfold maxLen;omega
    case c4=>omega
    case c5=>have:=HG.o.size;simp;omega
    intro A C c a _;have y:=qh (show C.ownsRow B.heap.size 128 1 A (k+1) (ucs (cD d) (k+1)) by rw[Q0];exact c);have x:=qh<|(HG.o.alloc HG.o.size _).grown a (by have:=HG.o.size;simp;omega) (λaf hg=>JM t.o hg);clear c a;go_wp2;go_roundw
    case rel=>exact⟨k+1,Zo,m.o,by go_num,rfl,y.o,x.o⟩
    case measure=>simp[intOf];omega
   ·by_cases M:s>0
    ·have ah:k<=u:=by
      rcases Nat.lt_or_ge u k with W | W
      ·have:=V Zo;omega
      ·exact W
     have o:d k=0+0:=by simp only[I.o,part,if_neg l,if_neg j]
     have e:s=d k+cS d k:=Zo
     have Z:(s).tmod 1000000000=cD d k:=by rw[Int.tmod_eq_emod_of_nonneg Zo,e];rfl
     have t2:(s).tdiv 1000000000=cS d (k+1):=by rw[Int.tdiv_eq_ediv_of_nonneg Zo,e];rfl
     have K:=QM d (k+1) k Zo;have u4:=IntWalk.u32_in (cD d k) Zo
     have q:k+1=u+1->cS d (k+1)=0:=λW=>by rw[cS];omega
     have an:s>0:=M;have m:=qh q;clear e H o q;go_wp2_with (first | (at_builtin;refine wpList_append_own _ rfl _ _ 28 rfl B.heap.size 128 R (.int .u32 0) 1 4 underlying28 G D E F rfl Ze _ _ _ rfl (t.o.alloc _) ⟨wr.heap.size,0,none⟩ 1 1 [.int .u32 (cD d k)] rfl rfl ?c1 ?c2 ?c3 ?c4 ?c5 ?_))
     case c1 =>
      intro Y aa g
      match Y,g with
      | 0,g=>simp at g;subst g;simp[Addr.add]
     case c2=>intro aa r;simp at r;subst r;rfl
     case c3=>unfold maxLen;omega
     case c4=>omega
     case c5=>have:=HG.o.size;simp;omega
     intro A C c a _;have y:=qh (show C.ownsRow B.heap.size 128 1 A (k+1) (ucs (cD d) (k+1)) by rw[Q0];exact c);have x:=qh<|(HG.o.alloc HG.o.size _).grown a (by have:=HG.o.size;simp;omega) (λaf hg=>JM t.o hg);clear c a;go_wp2;go_roundw
     case rel=>exact⟨k+1,Zo,m.o,by go_num,rfl,y.o,x.o⟩
     case measure=>simp[intOf];omega
    ·have X:=qh<|And.intro (show u<=k by omega) (And.intro (show k<=u+1 by omega) (show cS d k=0 by omega));have ae:¬s>0:=M;obtain rfl:s=0:=Zo;clear H ae M V;go_wp2;go_ret;exact⟨_,k,rfl,X.o.1,X.o.2.1,X.o.2.2,t.o,HG.o⟩
theorem Kj (a:Option Addr) (n i:Nat) (o:Nat->Int) (j:World) (base v:Nat) (x:Rd j a n o) (J:n<=1000000000) (A:base<=j.heap.size) :
  ∃ g c f,(Builtin.append_ #[28,28] v #[.slice none 0 0,.slice a n i]).run prog j=.ok (.slice g n c) f/\Own 128 f base g n c o/\(g=none->c=0)/\Bl j f:=by
 obtain⟨E,m,s,t,u⟩:=info_parts QQ
 cases a with
 | none =>
  obtain rfl:n=0:=by
   rcases Nat.eq_zero_or_pos n with l | l
   ·exact l
   ·obtain⟨b,off,e,_⟩:=x.cells l;cases e
  refine⟨none,0,j,?_,⟨zj,Or.inl ⟨rfl,rfl,rfl⟩,λM m=>Zo⟩,λ_=>rfl,zk⟩
  simp[Builtin.append_,run_underlying (P:=prog) underlying28,sizeOf,typeInfo,m,Builtin.lenOf,Builtin.firstCells]
 | some p =>
  obtain⟨b,off,G⟩:=p
  obtain⟨H,f,q,d,h,_⟩:=run_append_own (P:=prog) j base 28 v 128 E (.int .u32 0) 1 4 underlying28 m s t u rfl Ze (.slice none 0 0) 0 [] (Own.Ke j base o) ⟨b,off,G⟩ n i (ucs o n) (by rw[Qm];omega)
   (by
    intro K O C;obtain⟨r,rfl⟩:=ZT C;obtain⟨I,F,e,B⟩:=x.cells Zo
    cases e
    rw[Addr.add_lit]
    exact B K r) jdg (by unfold maxLen;omega) Zo A
  have d:f.ownsRow base 128 1 H n (ucs o n):=by simpa using d
  obtain⟨g,c,rfl,z,y⟩:=Own.Zn d x.rng;exact⟨g,c,f,q,z,y,(Below.refl _ j).grown h zj (by intro k D;simp[Value.ownBlock] at D)⟩
theorem YI {h:Program} {o:Oper} {a:Act} {g d:World} {c:Value->World->Prop} {v q r:Value} (p s:Operand) (f:TypeId)
  (j:o.op=.call { callee:=.builtin .append,args:=#[p,s],argTypes:=#[f,f] }) (l:a.eval p=v) (m:a.eval s=q)
  (k:(Builtin.append_ #[f,f] o.type #[v,q]).run h g=.ok r d) (i:c r d/\Bl g d):JC h (λa b=>Bl a b) g c ((execOp a.eval o).run h g):=by
 unfold execOp;simp only[j,resolve,invoke,builtin,Sem.run_bind,Sem.run_pure,Result.andThen_ok,List.map_toArray,List.map_cons,List.map_nil,l,m,k];exact i
theorem XK (B:Bool) (a:Option Addr) (n h:Nat) (o:Nat->Int) (q:World) (u:Rd q a n o) (K:n<=1000000000) :
  Cl 168 #[Jv B a n h] q λe c=>∃ l d,e=.returned (Jv B l n d)/\Own 128 c q.heap.size l n d o/\(l=none->d=0)/\Bl q c:=by
 have H:=qh u;have x:=((Bx.new q 30 (.bool B) (.slice a n h)).alloc (.cells #[.bool false,.slice none 0 0] 30));have i:=(Bx.Zu q (.cells #[.bool B,.slice a n h] 30) 30 (.bool false) (.slice none 0 0));clear u;go_enter func168,ntmps168
 go_upto_region 2 with (fail)
 obtain⟨y,z⟩:=gn ((q.alloc (.cells #[.bool B,.slice a n h] 30)).alloc (.cells #[.bool false,.slice none 0 0] 30));have k:=qh ((zk.alloc (by go_size) _ |>.alloc (by go_size) _):Bl q ((q.alloc (.cells #[.bool B,.slice a n h] 30)).alloc (.cells #[.bool false,.slice none 0 0] 30)));rw[<- z] at x i k;rw[<- z];have r:=qh x;have s:=qh i;clear z x i;have t:=qh (λ(c:World) (g:Bl y c)=>And.intro (r.o.bl g).c0 (r.o.bl g).c1);have AP:=qh (λ(c:World) (g:Bl y c) (M:Nat)=>Kj a n h o c y.heap.size M (H.o.below (k.o.trans (g.mono k.o.size))) K g.size)
 refine Ji 7 (JI [(5,Sp.made (λm:Option Addr × Nat=>.slice m.1 n m.2) (λm c=>Own 128 c y.heap.size m.1 n m.2 o/\(m.1=none->m.2=0)))])
  (λc=>Bl y c) Zk Zk
  (Jb (Sp.Jf λm q c u g=>⟨u.1.below g,u.2⟩) Jh) (λ_ _ u g=>u.trans (g.mono u.size)) (zk.drew) ?_
 simp only[zx,zy,zv,zw]
 iterate 5
  (refine Jy rfl rfl ?_ (λc f=>?_) ?_;rotate_left;· (have j:=Has.world f;(have V:=t.o _ j);clear f;go_simp;try rfl))
 refine Jc rfl rfl (λc f=>?_) ?_
 ·have j:Bl y c:=f.world;obtain⟨l,d,U,A,J,I,g⟩:=AP.o c j 28;clear f;exact YI _ _ 28 rfl rfl rfl A ⟨⟨⟨(l,d),rfl⟩,⟨(l,d),rfl,J,I⟩⟩,g⟩
 rintro _ ⟨m,rfl⟩
 (refine Jy rfl rfl ?_ (λc f=>?_) ?_;rotate_left;· (have j:=Has.world f;(skip);clear f;go_simp;try rfl))
 refine Jn (λW p v=>?_);have F:=jb0 (x:=m) (L:=n) (T:=128) (o:=o) (b:=y.heap.size) (v 5);have E:=qh F;have i:=s.o.bl p;have C:=qh i;obtain⟨O,P,Q,R⟩:=i.all;have D:=qh<|k.o.trans (p.mono k.o.size);have S:=s.o.lt;have G:=k.o.size;clear v F i p t AP;go_wp2;refine bodyPost_ret (Je rfl _ _ _ _ _ _ _ rfl (C.o.set _ _) underlying30 rfl Zk) rfl ⟨m.1,m.2,rfl,?_,E.o.2,?_⟩
 ·exact((E.o.1.oz).oz).mono G
 ·exact(D.o.sc).sc
def VK (w:World) (z:Int) (e:Ending) (w':World):Prop :=
 ∃ a cap,e=.returned (Jv (decide (z<0)) a (Ja z.natAbs) cap)/\Own 128 w' w.heap.size a (Ja z.natAbs) cap (dgi z.natAbs)/\Bl w w'
def AmtR (w:World) (N:Nat) (e:Ending) (w':World):Prop :=
 ∃ a K cap o,e=.returned (.slice a K cap)/\Dig o K/\Jj o K=(N:Int)/\K<=1000000000/\Own 128 w' w.heap.size a K cap o/\Bl w w'
theorem more_own (c d:Nat) (a b:Option Addr) (h i:Nat) (r:World) (A:Rd r a (Ja c) (dgi c)) (B:Rd r b (Ja d) (dgi d)) (p:Ja c<=100000000) (q:Ja d<=100000000) :
  Cl 230 #[.slice a (Ja c) h,.slice b (Ja d) i] r (AmtR r (c+d)):=by
 obtain⟨f,l,m,o,D⟩:∃ f,Ja c<=f/\Ja d<=f/\(f=Ja c\/f=Ja d)/\f<=100000000:=by
  rcases Nat.le_total (Ja c) (Ja d) with j | j
  ·exact⟨Ja d,j,zj,.inr rfl,q⟩
  ·exact⟨Ja c,zj,j,.inl rfl,p⟩
 refine(more_any a b (Ja c) (Ja d) h i f (dgi c) (dgi d) r A B (Jr _ _) (Jr _ _) p q l m o).mono ?_;rintro e H ⟨v,s,rfl,E,F,u,x,y⟩;obtain⟨t,g,rfl,z,-⟩:=Own.Zn x (λG C=>by have:=QM (λk=>part (dgi c) (Ja c) k+part (dgi d) (Ja d) k) s G C;omega);refine⟨t,s,g,_,rfl,QM _ _,?_,Zo,z,y⟩;have j:=cS_sum (λk=>part (dgi c) (Ja c) k+part (dgi d) (Ja d) k) s;rw[u,ZI,Q4 _ Zo,Q4 _ Zo,Jz,Jz] at j;omega
theorem jft (c d:Nat) (a b:Option Addr) (i j:Nat) (m:World) (s:Rd m a (Ja c) (dgi c)) (t:Rd m b (Ja d) (dgi d)) (x:Ja c<=100000000) (y:d<=c) :
  Cl 232 #[.slice a (Ja c) i,.slice b (Ja d) j] m (AmtR m (c-d)):=by
 have l:=JP y;refine(less_any a b (Ja c) (Ja d) i j (dgi c) (dgi d) m s t (Jr _ _) (Jr _ _) x l).mono ?_;rintro e C ⟨v,rfl,p,q⟩;obtain⟨o,g,rfl,r,-⟩:=Own.Zn p (λB u=>by have:=QM (λk=>part (dgi c) (Ja c) k-part (dgi d) (Ja d) k) (Ja c) B u;omega);refine⟨o,Ja c,g,_,rfl,QM _ _,?_,Zo,r,q⟩
 have e:(λk=>part (dgi c) (Ja c) k-part (dgi d) (Ja d) k)=λk=>part (dgi c) (Ja c) k+part (dgi d) (Ja d) k*(-1):=by funext k;omega
 have h:Jj (λk=>part (dgi c) (Ja c) k-part (dgi d) (Ja d) k) (Ja c)=(c:Int)-d:=by
  rw[e,ZI,XW,Q4 _ zj,Q4 _ l,Jz,Jz];omega
 have z:=JE c;have A:=(Yi (f:=λk=>part (dgi c) (Ja c) k-part (dgi d) (Ja d) k) (n:=Ja c) (by rw[h];omega) (by rw[h];omega)).2;rw[A,h];omega
theorem jjx (c d:Nat) (a b:Option Addr) (f g:Nat) (h:World) (m:Rd h a (Ja c) (dgi c)) (p:Rd h b (Ja d) (dgi d)) (q:Ja c<=100000000) (r:Ja d<=100000000) :
  Cl 229 #[.slice a (Ja c) f,.slice b (Ja d) g] h (AmtR h (c*d)):=by
 refine(jju a b (Ja c) (Ja d) f g (dgi c) (dgi d) h m p (Jr _ _) (Jr _ _) q r).mono ?_;rintro e s ⟨o,rfl,i,j,k,l⟩;refine⟨_,_,_,o,rfl,i,?_,Zo,k,l⟩;rw[j,Jz,Jz];omega
theorem Own.short {a:Option Addr} {o i:Nat->Int} (k:Own T w base a n cap o) (l:L<=n) (e:∀ c,c<L->o c=i c):Own T w base a L cap i:=by
 refine⟨zm l k.le,?_,λc f=>by rw[<- e c f];exact k.rng c Zo⟩
 rcases k.place with ⟨j,r,s⟩ | ⟨q,g,m,h,hg,d,p⟩
 ·exact Or.inl ⟨j,Zo,Zo⟩
 ·exact Or.inr ⟨q,g,m,h,hg,d,λc f=>by rw[p c Zo];show some (Value.int .u32 (o c))=_;rw[e c f]⟩
theorem XZ {a:Option Addr} {o:Nat->Int} (g:Own T w base a n cap o) (f:Dig o n) (i:Jj o n=(N:Int)):Own T w base a (Ja N) cap (dgi N):=by
 have e:(Jj o n).toNat=N:=Zo;have c:=JW f;rw[e] at c
 refine g.short c λj h=>?_
 have d:=Zt f j Zo;rw[e] at d;exact d.symm
theorem Xk (l f:Bool) (a:Option Addr) (n c g b:Nat) (o:Nat->Int) (h:World) (p:Own 128 h b a n c o) (j:Dig o n) (k:n<=1000000000) (q:Jj o n=(g:Int)) (i:(l&&decide (0<Ja g))=f) :
  Cl 194 #[.bool l,.slice a n c] h λe m=>e=.returned (Jv f a (Ja g) c)/\Bl h m:=by
 have d:=num_any l a n c o h p.rd j k p.le;rw[show(Jj o n).toNat=g by omega,i] at d;exact d
def ja1 (b N:Nat) (x:Option Addr × Nat × Nat) (w:World):Prop:=∃ o,Dig o x.2.1/\Jj o x.2.1=(N:Int)/\x.2.1<=1000000000/\Own 128 w b x.1 x.2.1 x.2.2 o
theorem ja1.keeps (j:Option Addr × Nat × Nat) (i a:World) (k:ja1 b N j i) (h:Bl i a):ja1 b N j a:=by
 obtain⟨o,c,d,f,g⟩:=k;exact⟨o,c,d,f,g.below h⟩
theorem jd5 {x:Option Addr × Nat × Nat} (c:∃ a:Option Addr × Nat × Nat,Value.slice x.1 x.2.1 x.2.2=.slice a.1 a.2.1 a.2.2/\ja1 b N a w):ja1 b N x w:=by
 obtain⟨⟨h,i,j⟩,e,c⟩:=c;obtain⟨d,f,g⟩:=x;simp only[Value.slice.injEq] at e;obtain⟨rfl,rfl,rfl⟩:=e;exact c
theorem JU {s:Bool} {x:Option Addr × Nat} {o:Nat->Int} (c:∃ a:Option Addr × Nat,Jv s x.1 L x.2=Jv s a.1 L a.2/\Own T w b a.1 L a.2 o):Own T w b x.1 L x.2 o:=by
 obtain⟨a,e,c⟩:=c;simp only[Value.agg.injEq,Array.mk.injEq,List.cons.injEq,Value.slice.injEq,true_and,and_true] at e;rw[e.1,e.2];exact c
theorem jg2 (a c:Int) (h:decide (a<0)=decide (c<0)):a.natAbs+c.natAbs=(a+c).natAbs/\(decide (a<0)&&decide (0<Ja (a+c).natAbs))=decide (a+c<0):=by
 have f:=Uz (z:=a+c)
 by_cases d:a<0 <;> by_cases g:c<0 <;> simp only[d,g,decide_true,decide_false,reduceCtorEq] at h <;> refine⟨Zo,?_⟩ <;> simp only[d,decide_true,decide_false,Bool.true_and,Bool.false_and]
 ·exact decide_eq_decide.2 (f.trans Zo)
 ·exact(zo Zo).symm
theorem VL (a c:Int) (g:c.natAbs<=a.natAbs) (f:¬decide (a<0)=decide (c<0)):a.natAbs-c.natAbs=(a+c).natAbs/\(decide (a<0)&&decide (0<Ja (a+c).natAbs))=decide (a+c<0):=by
 have d:=add_plain a c (-1) g (by rw[if_neg f]);exact⟨Zo,d.2.2⟩
theorem K6 (d:Bool) (g:Option Addr) (a c1:Nat) (i:Nat->Int) (o:World) (r:Rd o g a i) (G:a<=100000000) (s:a<=c1) :
  Cl 189 #[Jv d g a c1] o λe A=>e=.returned (.int .i64 (Js (Jp d a i) 0))/\Bl o A:=by
 obtain⟨J,H,v,t,u,m⟩:=Xw d g a c1 i o r Zo s
 generalize Jp d a i=z1 at v t u m ⊢
 have k:=qh m;clear m;have j:=qh<|Bx.new o 30 (.bool d) (.slice g a c1);clear r v;go_enter func189,ntmps189;go_wp2_with fail
 refine(k.o _ ?_).mono ?_
 ·exact qg
 rintro e B ⟨rfl,c⟩;have p:=j.o.bl c;have l:=qh ((zk.alloc (by go_size) _).trans (c.mono (by go_size)):Bl o B);obtain⟨C,D,E,F⟩:=p.all;clear j p c k;obtain⟨L,h⟩:=gn (Ja z1.natAbs);rw[<- h] at t u ⊢
 rcases Int.lt_trichotomy z1 0 with f | f | f
 ·have q:=qh<|JK (x:=z1) (y:=0) f;rw[decide_eq_true f];clear f;go_wp2;go_ret;exact⟨by rw[q.o];rfl,(l.o.setCell (by simp) _).setCell (by simp) _⟩
 ·have q:=qh<|J7 (x:=z1) (y:=0) f;rw[zo Zo]
  obtain rfl:L=0:=by rw[h,f];exact Jw
  clear f h;go_wp2;go_ret;exact⟨by rw[q.o];rfl,(l.o.setCell (by simp) _).setCell (by simp) _⟩
 ·have q:=qh<|JS (x:=z1) (y:=0) f;rw[zo Zo]
  have I:(L:Int)>0:=by have:=(Uz (z:=z1)).2 Zo;omega
  clear f h;go_wp2;go_ret;exact⟨by rw[q.o];rfl,(l.o.setCell (by simp) _).setCell (by simp) _⟩
end Limb
namespace Book
open Go.RowKit Go.Sort Go.FreshH Limb
variable {a b c:World}
structure Touch (U:Nat->Prop) (w w':World):Prop where
 os:w'.os=w.os
 tape:w'.tape=w.tape
 output:w'.output=w.output
 size:w.heap.size<=w'.heap.size
 block:∀ k,k<w.heap.size->¬U k->w'.heap[k]?=w.heap[k]?
theorem Touch.refl (f:Nat->Prop) (d:World):Touch f d d:=⟨rfl,rfl,rfl,zj,λ_ _ _=>rfl⟩
theorem Touch.trans {h:Nat->Prop} (d:Touch h a b) (k:Touch h b c):Touch h a c :=
 ⟨k.os.trans d.os,k.tape.trans d.tape,k.output.trans d.output,zm d.size k.size,λi f g=>(k.block i (Nat.lt_of_lt_of_le f d.size) g).trans (d.block i f g)⟩
theorem Touch.mono {j l:Nat->Prop} (d:Touch j a b) (f:∀ k,j k->l k):Touch l a b:=⟨d.os,d.tape,d.output,d.size,λm h i=>d.block m h λg=>i (f m g)⟩
theorem Touch.weak {j l:Nat->Prop} (d:Touch j a b) (g:∀ k,k<a.heap.size->j k->l k):Touch l a b:=⟨d.os,d.tape,d.output,d.size,λm f i=>d.block m f λh=>i (g m f h)⟩
theorem Touch.of_below {g:Nat->Prop} (d:Bl a b):Touch g a b:=⟨d.os,d.tape,d.output,d.size,λh f _=>d.block h f⟩
theorem Touch.jfu {i:Nat->Prop} {f:Nat} (d:Touch i a b) (l:f<=a.heap.size) (g:∀ k,k<f->¬i k):Below f a b:=⟨d.os,d.tape,d.output,d.size,λj h=>d.block j Zo (g j h)⟩
theorem Touch.drew {f:Nat->Prop} (d:Touch f a b):Touch f a b.drew:=⟨d.os,d.tape,d.output,d.size,d.block⟩
theorem Touch.alloc {d:Nat->Prop} (f:Touch d a b) (o:Obj):Touch d a (b.alloc o):=f.trans (Touch.of_below (zk.alloc zj o))
theorem Touch.setCell {h:Nat->Prop} (f:Touch h a b) {p:Addr} (d:h p.block\/a.heap.size<=p.block) (v:Value):Touch h a (b.setCell p v) :=
 ⟨f.os,f.tape,f.output,by simpa using f.size,λj i g=>by
  rw[Below.heap_setCell _ _ _ _ (λe=>by subst e;rcases d with d | d;exact g d;omega)]
  exact f.block j i g⟩
theorem Touch.grown {i:Nat->Prop} {row:Option Nat} (d:Touch i a b) (hg:b.grownBy c row) (j:∀ k,row=some k->i k\/a.heap.size<=k):Touch i a c :=
 ⟨hg.os.trans d.os,hg.tape.trans d.tape,hg.output.trans d.output,zm d.size hg.size,λl g h=>by
  rw[hg.block l (Nat.lt_of_lt_of_le g d.size) (λe=>by rcases j l e.symm with f | f;exact h f;omega)]
  exact d.block l g h⟩
end Book
namespace Limb
open Go.RowKit Go.Sort Go.FreshH
variable {T base cap g n:Nat} {w:World} {o:Nat->Int} {a:Option Addr}
theorem Own.keep {w':World} (j:Own T w base a n cap o) (m:∀ p,a=some p->w'.heap[p.block]?=w.heap[p.block]?):Own T w' base a n cap o:=by
 refine⟨j.le,?_,j.rng⟩
 rcases j.place with k | ⟨g,f,h,i,hg,d,l⟩
 ·exact Or.inl k
 ·exact Or.inr ⟨g,f,h,i,(m _ h).trans hg,d,l⟩
theorem Own.blk (l:Own T w base a n cap o) {p:Addr} (d:a=some p):p=⟨p.block,0,none⟩/\base<=p.block/\p.block<w.heap.size:=by
 rcases l.place with h | ⟨g,k,i,f,hg,j,m⟩
 ·rw[h.1] at d;cases d
 ·obtain rfl:=Option.some.inj (i.symm.trans d);exact⟨rfl,f,lt_of_block hg⟩
theorem Own.QF (h:Own T w base a n cap o) (j:0<n):∃ g,a=some ⟨g,0,none⟩:=by
 rcases h.place with i | ⟨g,f,d,_⟩
 ·omega
 ·exact⟨g,d⟩
theorem Own.fz (m:Own T w base (some ⟨g,0,none⟩) n cap o) (k:Nat):w.frozen? ⟨g,k,none⟩=false:=by
 rcases m.place with f | ⟨l,d,h,j,hg,i,p⟩
 ·cases f.1
 ·cases h;exact frozen_of_row w _ k d T hg
theorem Own.cell (q:Own T w base (some ⟨g,0,none⟩) n cap o) {i:Nat} (k:i<n):w.cell? ⟨g,i,none⟩=some (.int .u32 (o i)):=by
 rcases q.place with d | ⟨p,l,f,m,hg,j,h⟩
 ·cases d.1
 ·cases f
  rw[cell_of_row _ _ _ _ _ _ hg];exact h i k
theorem Own.congr {k:Nat->Int} (l:Own T w base a n cap o) (e:∀ f,f<n->o f=k f):Own T w base a n cap k:=by
 refine⟨l.le,?_,λf d=>by rw[<- e f d];exact l.rng f d⟩
 rcases l.place with m | ⟨g,i,p,j,hg,h,q⟩
 ·exact Or.inl m
 ·exact Or.inr ⟨g,i,p,j,hg,h,λf d=>by rw[q f d];show some (Value.int .u32 (o f))=_;rw[e f d]⟩
theorem Own.less {r:Nat} (j:Own T w base a n cap o) (k:r<=n):Own T w base a r cap o:=by
 refine⟨zm k j.le,?_,λq p=>j.rng q Zo⟩
 rcases j.place with ⟨i,s,t⟩ | ⟨g,f,l,h,hg,d,m⟩
 ·exact Or.inl ⟨i,Zo,Zo⟩
 ·exact Or.inr ⟨g,f,l,h,hg,d,λq p=>m q Zo⟩
theorem Own.put (i:Own T w base (some ⟨g,0,none⟩) n cap o) {t:Nat} (s:t<n) {v:Int} (q:0<=v/\v<=4294967295) :
  Own T (w.setCell ⟨g,t,none⟩ (.int .u32 v)) base (some ⟨g,0,none⟩) n cap (upd o t v):=by
 refine⟨i.le,?_,λj h=>?_⟩
 ·rcases i.place with l | ⟨r,d,m,k,hg,f,p⟩
  ·cases l.1
  ·cases m
   refine Or.inr ⟨g,d.setIfInBounds t (.int .u32 v),rfl,k,heap_setCell_same w g t d T _ hg,by simpa using f,λj h=>?_⟩;rw[Array.getElem?_setIfInBounds];by_cases e:t=j
   ·subst e;have:=i.le;rw[if_pos rfl,if_pos Zo];show _=some (Value.int .u32 (upd o t v t));rw[upd_same]
   ·rw[if_neg e];show _=some (Value.int .u32 (upd o t v j));rw[upd_ne _ _ (λi=>e i.symm)];exact p j h
 ·by_cases e:j=t
  ·subst e;rw[upd_same];exact q
  ·rw[upd_ne _ _ e];exact i.rng j h
end Limb
namespace Book
open Go.RowKit Go.Sort Go.FreshH Limb
theorem ucs_upd {o:Nat->Int} {n:Nat} {v:Int}:ucs (upd o n v) n=ucs o n:=by
 unfold ucs
 refine List.map_congr_left λf d=>?_
 rw[List.mem_range] at d;show Value.int .u32 (upd o n v f)=.int .u32 (o f);rw[upd_ne _ _ Zo]
theorem push_any {d:World} {base:Nat} {a:Option Addr} {n f:Nat} {o:Nat->Int} (U:Own 128 d base a n f o) (hn:n<=1000000000) (W:base<=d.heap.size) {t:Nat} {v:Int} (X:d.cell? ⟨t,0,none⟩=some (.int .u32 v)) (hv:0<=v/\v<=4294967295) (E ab S:Nat) (Z:ab=1) :
  ∃ C q F,(Builtin.append_ #[28,28] E #[.slice a n f,.slice (some ⟨t,0,none⟩) ab S]).run prog d=.ok (.slice C (n+1) q) F/\Own 128 F base C (n+1) q (upd o n v) /\
   ((C=a/\q=f/\d.grownBy F (a.map (·.block)))\/((∃ g,C=some ⟨g,0,none⟩/\d.heap.size<=g)/\d.grownBy F none/\f<n+1)):=by
 subst Z;obtain⟨K,r,H,l,I⟩:=info_parts QQ
 have m:∀ D B,[Value.int .u32 v][D]?=some B->d.cell? ((⟨t,0,none⟩:Addr).add D)=some B:=by
  intro D B u
  match D,u with
  | 0,u =>
   simp at u;subst u;rw[Addr.add_lit];exact X
 have V:∀ B∈[Value.int .u32 v],B.oneCell'=true:=by intro B R;simp at R;subst R;rfl
 have A:∀ p,p<n+1->0<=upd o n v p/\upd o n v p<=4294967295:=by
  intro p r;by_cases e:p=n
  ·subst e;rw[upd_same];exact hv
  ·rw[upd_ne _ _ e];exact U.rng p Zo
 have h:∀ i,i<n+1->(d.drew.alloc (.cells ((ucs o n).toArray++[Value.int .u32 v].toArray++Builtin.zeroCells (Value.int .u32 0).cells (grownCap d (n+1) i 128-(n+1))) 128)).heap.size=d.heap.size+1 /\
   Own 128 (d.drew.alloc (.cells ((ucs o n).toArray++[Value.int .u32 v].toArray++Builtin.zeroCells (Value.int .u32 0).cells (grownCap d (n+1) i 128-(n+1))) 128)) base (some ⟨d.heap.size,0,none⟩) (n+1) (grownCap d (n+1) i 128) (upd o n v) /\
   d.grownBy (d.drew.alloc (.cells ((ucs o n).toArray++[Value.int .u32 v].toArray++Builtin.zeroCells (Value.int .u32 0).cells (grownCap d (n+1) i 128-(n+1))) 128)) none:=by
  intro i ho;have O:=grownCap_ge d (n+1) i 128;refine⟨by simp,⟨O,Or.inr ⟨d.heap.size,_,rfl,W,heap_alloc_new d.drew _,?_,λp r=>?_⟩,A⟩,⟨rfl,rfl,rfl,by simp,λk J _=>heap_alloc_old d.drew _ J⟩⟩
  ·simp only[Array.size_append,List.size_toArray,size_zeroCells,Qm,List.length_cons,List.length_nil];show _<=n+(0+1)+_*1;omega
  ·rw[Array.getElem?_append_left (by simp only[Array.size_append,List.size_toArray,Qm,List.length_cons,List.length_nil];omega),<- Array.getElem?_toList,Array.toList_append];show(ucs o n++[Value.int .u32 v])[p]?=some (uc (upd o n v) p);rw[<- Yl (upd o n v) (n+1) p r,Q0,ucs_upd];show _=(ucs o n++[Value.int .u32 (upd o n v n)])[p]?;rw[upd_same]
 rcases U.place with ⟨rfl,rfl,rfl⟩ | ⟨g,x,rfl,M,hg,Y,G⟩
 ·have z:=run_append_nil (P:=prog) d 28 E 128 K (.int .u32 0) underlying28 r H ⟨t,0,none⟩ 1 S [.int .u32 v] (by rw[l];rfl) m Zo Zo (by rw[I];omega);have j:=h 0 Zo;simp only[Nat.zero_add,ucs,List.range_zero,List.map_nil,Array.empty_append] at j;refine⟨_,_,_,z,j.2.1,Or.inr ⟨⟨_,rfl,zj⟩,j.2.2,Zo⟩⟩
 ·by_cases s:n+1<=f
  ·have z:=run_append_room (P:=prog) d 28 E 128 K underlying28 r g n f x hg ⟨t,0,none⟩ 1 S [.int .u32 v] (by rw[l];rfl) m V s (by rw[l];simp;omega);refine⟨_,_,_,z,⟨s,Or.inr ⟨g,_,rfl,M,setRow_heap d g x _ _ _ hg,?_,λp r=>?_⟩,A⟩,Or.inl ⟨rfl,rfl,⟨rfl,rfl,rfl,by simp,λk _ J=>setRow_other d g k _ (λe=>J (by simp[e]))⟩⟩⟩
   ·simp only[List.size_toArray,List.length_append,List.length_take,List.length_drop,Array.length_toList,List.length_cons,List.length_nil];omega
   ·rw[l,Nat.mul_one];rw[List.getElem?_toArray,List.append_assoc]
    have y:(x.toList.take n).length=n:=by simp;omega
    by_cases e:p<n
    ·rw[List.getElem?_append_left (by rw[y];exact e),List.getElem?_take,if_pos e];have:=G p e;rw[Array.getElem?_toList,this];show some (Value.int .u32 (o p))=some (Value.int .u32 (upd o n v p));rw[upd_ne _ _ Zo]
    ·obtain rfl:p=n:=Zo;rw[List.getElem?_append_right (by rw[y];exact zj),y,Nat.sub_self];show some (Value.int .u32 v)=some (Value.int .u32 (upd o p v p));rw[upd_same]
  ·have holds:∀ D B,(ucs o n)[D]?=some B->d.cell? ((⟨g,0,none⟩:Addr).add D)=some B:=by
    intro D B u;obtain⟨Q,rfl⟩:=ZT u;rw[Addr.add_lit,Nat.zero_add,cell_of_row _ _ _ _ _ _ hg];exact G D Q
   have aa:=U.le;have z:=run_append_grow (P:=prog) d 28 E 128 K (.int .u32 0) underlying28 r H ⟨g,0,none⟩ n f (ucs o n) (by rw[Qm,l];omega) holds ⟨t,0,none⟩ 1 S [.int .u32 v] (by rw[l];rfl) m Zo Zo (growslice_fits Zo (by rw[I];omega));have j:=h f Zo;exact⟨_,_,_,z,j.2.1,Or.inr ⟨⟨_,rfl,zj⟩,j.2.2,Zo⟩⟩
theorem Km {l:Array Oper} {rest:List Oper} {i:Oper} {k:Act} {H:Exit->Act->World->Prop} (r:i.guard=none) (J K:Operand)
  (B:i.op=.call { callee:=.builtin .append,args:=#[J,K],argTypes:=#[28,28] })
  {m:World} {base:Nat} {a:Option Addr} {n f:Nat} {o:Nat->Int} (D:k.eval J=.slice a n f) (M:Own 128 m base a n f o) (A:n<=1000000000) (x:base<=m.heap.size)
  {p:Nat} {v:Int} {G I:Nat} (F:k.eval K=.slice (some ⟨p,0,none⟩) G I) (y:m.cell? ⟨p,0,none⟩=some (.int .u32 v)) (E:0<=v/\v<=4294967295) (z:G=1)
  (u:∀ h d j,Own 128 j base h (n+1) d (upd o n v)->((h=a/\d=f/\m.grownBy j (a.map (·.block)))\/((∃ g,h=some ⟨g,0,none⟩/\m.heap.size<=g)/\m.grownBy j none/\f<n+1)) ->
   wpList prog l H rest (k.put i.dst (.slice h (n+1) d)) j):wpList prog l H (i :: rest) k m:=by
 refine wpList_plain r λO q=>?_
 obtain⟨h,d,j,C,s,t⟩:=push_any M A x y E i.type G I z;unfold Oper.wp execOp;simp only[B,resolve,invoke,builtin,Sem.run_bind,Sem.run_pure,Result.andThen_ok,List.map_toArray,List.map_cons,List.map_nil,D,F,C];exact q _ _ (u _ _ _ s t)
def mk (j:Nat):Int:=1001+j
end Book
namespace Limb
open Go.RowKit Go.Sort Go.FreshH
theorem XL (s1:Bool) (a1:Option Addr) (O c1:Nat) (o1:Nat->Int) (s2:Bool) (a2:Option Addr) (P c2:Nat) (o2:Nat->Int) (F:World)
  (h1:Rd F a1 O o1) (aF:O<=100000000) (aC:O<=c1) (h2:Rd F a2 P o2) (aG:P<=100000000) (aD:P<=c2) :
  Cl 195 #[Jv s1 a1 O c1,Jv s2 a2 P c2] F (VK F (Jp s1 O o1+Jp s2 P o2)):=by
 obtain⟨x1,d1,r1,l1,m1,O1⟩:=Xw s1 a1 O c1 o1 F h1 Zo aC;obtain⟨Q,d2,r2,l2,m2,O2⟩:=Xw s2 a2 P c2 o2 F h2 Zo aD
 generalize Jp s1 O o1=z1 at r1 l1 m1 O1 ⊢
 have aq:=qh O1;clear O1
 generalize Jp s2 P o2=z2 at r2 l2 m2 O2 ⊢
 have ar:=qh O2;clear O2;have HR:=qh<|And.intro r1 r2;clear h1 h2 r1 r2;have S:=qh<|((Bx.new F 30 (.bool s1) (.slice a1 O c1)).alloc (.cells #[.bool s2,.slice a2 P c2] 30)).alloc (.cells #[.bool false,.slice none 0 0] 30);have U:=qh<|(Bx.Zu F (.cells #[.bool s1,.slice a1 O c1] 30) 30 (.bool s2) (.slice a2 P c2)).alloc (.cells #[.bool false,.slice none 0 0] 30);have m:=qh<|Bx.new3 F (.cells #[.bool s1,.slice a1 O c1] 30) (.cells #[.bool s2,.slice a2 P c2] 30) 30 (.bool false) (.slice none 0 0);go_enter func195,ntmps195;go_wp2_with fail
 refine(aq.o _ ?_).mono ?_
 ·exact qg
 rintro e w1 ⟨rfl,ab⟩;have G:=S.o.bl ab;have H:=U.o.bl ab;have l:=m.o.bl ab;have G1:=qh ((zk.alloc (by go_size) _ |>.alloc (by go_size) _ |>.alloc (by go_size) _).trans (ab.mono (by go_size)):Bl F w1);have K1:=qh G;have K2:=qh H;have K3:=qh l;obtain⟨af,ag,ah,ai⟩:=G.all;obtain⟨aj,ak,am,an⟩:=H.all;clear S U m G H l ab;go_wp2_with fail
 refine(ar.o _ ?_).mono ?_
 ·have:=G1.o;exact qg
 rintro e w2 ⟨rfl,ac⟩;have G:=(K1.o.set (.bool (decide (z1<0))) (.slice x1 (Ja z1.natAbs) d1)).below ac (by simpa using K1.o.lt);have H:=((K2.o.other (a:=⟨F.heap.size,0,none⟩) Zd (.bool (decide (z1<0)))).other (a:=⟨F.heap.size,1,none⟩) Zd (.slice x1 (Ja z1.natAbs) d1)).below ac (by simpa using K2.o.lt);have l:=((K3.o.other (a:=⟨F.heap.size,0,none⟩) Zd (.bool (decide (z1<0)))).other (a:=⟨F.heap.size,1,none⟩) Zd (.slice x1 (Ja z1.natAbs) d1)).below ac (by simpa using K3.o.lt);have G2:=qh (((G1.o.setCell (by simp) _).setCell (by simp) _).trans (ac.mono (by simpa using G1.o.size)):Bl F w2);have C1:=qh G;have C2:=qh H;have C3:=qh l;obtain⟨af,ag,ah,ai⟩:=G.all;obtain⟨aj,ak,am,an⟩:=H.all;clear K1 K2 K3 G H l ac G1
 go_upto_region 3 with (fail)
 obtain⟨r,hW⟩:=gn ((w2.setCell ⟨F.heap.size+1,0,none⟩ (.bool (decide (z2<0)))).setCell ⟨F.heap.size+1,1,none⟩ (.slice Q (Ja z2.natAbs) d2));have G:=(C1.o.other (a:=⟨F.heap.size+1,0,none⟩) Zd (.bool (decide (z2<0)))).other (a:=⟨F.heap.size+1,1,none⟩) Zd (.slice Q (Ja z2.natAbs) d2);have H:=C2.o.set (.bool (decide (z2<0))) (.slice Q (Ja z2.natAbs) d2);have l:=(C3.o.other (a:=⟨F.heap.size+1,0,none⟩) Zd (.bool (decide (z2<0)))).other (a:=⟨F.heap.size+1,1,none⟩) Zd (.slice Q (Ja z2.natAbs) d2);have G3:=(G2.o.setCell (p:=⟨F.heap.size+1,0,none⟩) (by simp) (.bool (decide (z2<0)))).setCell (p:=⟨F.heap.size+1,1,none⟩) (by simp) (.slice Q (Ja z2.natAbs) d2);rw[<- hW] at G H l G3;rw[<- hW];have HG:=qh G3;have S:=qh G;have U:=qh H;have m:=qh l;have v:=qh (λ(d:World) (f:Bl r d)=>And.intro (S.o.bl f).c0 (S.o.bl f).c1);have x:=qh (λ(d:World) (f:Bl r d)=>And.intro (U.o.bl f).c0 (U.o.bl f).c1);clear af ag ah ai aj ak am an C1 C2 C3 hW G2 aq ar;have M:=qh<|And.intro (HR.o.1.below G3) (HR.o.2.below G3);have HL:=qh<|And.intro (show Ja z1.natAbs<=100000000 by omega) (show Ja z2.natAbs<=100000000 by omega);obtain⟨af,ag,ah,ai⟩:=G.all;obtain⟨aj,ak,am,an⟩:=H.all;clear G H l G3;by_cases y:decide (z1<0)=decide (z2<0)
 ·obtain⟨N,I⟩:=gn (z1.natAbs+z2.natAbs);obtain⟨z,A⟩:=jg2 z1 z2 y;rw[<- I] at z;rw[<- z] at A;obtain⟨K,u⟩:=gn (decide (z1+z2<0));rw[<- u] at A;have Z:=qh A;have W:=qh<|And.intro z u;have q:=qh (λ(d:World) (f:Bl r d)=>more_own z1.natAbs z2.natAbs x1 Q d1 d2 d (M.o.1.below f) (M.o.2.below f) HL.o.1 HL.o.2);rw[<- I] at q;have Y:=v;have aa:=x
  have e0:(decide (z1<0)==decide (z2<0))=true:=by rw[y];simp
  clear z A I u y
  go_upto_region 4 with (fail)
  refine Ji 8 (JI [(6,Sp.made (λk:Option Addr × Nat × Nat=>.slice k.1 k.2.1 k.2.2) (ja1 r.heap.size N)),
    (7,Sp.made (λk:Option Addr × Nat=>Jv K k.1 (Ja N) k.2) (λk d=>Own 128 d r.heap.size k.1 (Ja N) k.2 (dgi N)))])
   (λd=>Bl r d) Zk Zk
   (Jb (Sp.Jf ja1.keeps) (Jb (Sp.Jf λk F d R f=>R.below f) Jh)) (λ_ _ R f=>R.trans (f.mono R.size)) (zk.drew) ?_
  simp only[zx,zy,zv,zw]
  iterate 6
   (refine Jy rfl rfl ?_ (λd i=>?_) ?_;rotate_left;· (have j:=Has.world i;(have y:=Y.o _ j;have y:=aa.o _ j);clear i;go_simp;try rfl))
  (refine Jc rfl rfl (λd i=>?_) ?_;· (have j:=Has.world i;go_simp;((refine(q.o d j).mono ?_;rintro e ae ⟨a,au,cap,o,rfl,B,C,J,D,q5⟩;exact⟨_,rfl,⟨⟨a,au,cap,rfl⟩,⟨a,au,cap,rfl,o,B,C,J,D.mono j.size⟩⟩,q5⟩))))
  rintro _ ⟨k,rfl⟩
  (refine Jc rfl rfl (λd i=>?_) ?_;· (have j:=Has.world i;go_simp;((have h7:=jd5 (x:=k) (b:=r.heap.size) (N:=N) (i.fact 6 Zk);obtain⟨o,B,C,J,D⟩:=h7;refine(Xk _ K _ _ _ N r.heap.size o d D B J C Z.o).mono ?_;rintro e ae ⟨rfl,f⟩;exact⟨_,rfl,⟨⟨k.1,k.2.2,rfl⟩,⟨k.1,k.2.2,rfl,(XZ D B C).below f⟩⟩,f⟩))))
  rintro _ ⟨ao,rfl⟩;refine Jn (λw5 t E=>?_);have OA:=JU (T:=128) (b:=r.heap.size) (s:=K) (L:=Ja N) (o:=dgi N) (x:=ao) (E 7);have HO:=qh OA;have l:=m.o.bl t;have V:=qh l;obtain⟨av,aw,ax,ay⟩:=l.all;have X:=qh<|HG.o.trans (t.mono HG.o.size);have aA:=m.o.lt;have ad:=HG.o.size;clear E OA l t v x;go_wp2_with fail
  unfold VK;rw[<- W.o.1,<- W.o.2];refine bodyPost_ret (Je rfl _ _ _ _ _ _ _ rfl (V.o.set _ _) underlying30 rfl Zk) rfl ⟨ao.1,ao.2,rfl,?_,?_⟩
  ·exact((HO.o.oz).oz).mono ad
  ·exact(X.o.sc).sc
 ·by_cases az:z1.natAbs<z2.natAbs
  ·obtain⟨N,I⟩:=gn (z2.natAbs-z1.natAbs);obtain⟨z,A⟩:=VL z2 z1 Zo (λR=>y R.symm);rw[<- I,Int.add_comm z2 z1] at z;rw[Int.add_comm z2 z1,<- z] at A;obtain⟨K,u⟩:=gn (decide (z1+z2<0));rw[<- u] at A;have Z:=qh A;have W:=qh<|And.intro z u;have q:=qh (λ(d:World) (f:Bl r d)=>jft z2.natAbs z1.natAbs Q x1 d2 d1 d (M.o.2.below f) (M.o.1.below f) HL.o.2 Zo);have AM:=qh<|Vo z1.natAbs z2.natAbs x1 Q d1 d2 r M.o.1 M.o.2 Zo Zo;rw[show Js (z1.natAbs:Int) (z2.natAbs:Int) = -1 from JK Zo] at AM;rw[<- I] at q
   have e0:(decide (z1<0)==decide (z2<0))=false:=by simpa using y
   clear z A I u y az
   go_upto_if 27 with (first
    | (go_at_call 231;refine AM.o.mono ?_;rintro e w2 ⟨rfl,aE,rfl⟩))
   go_upto_region 6 with (fail)
   have h:∃ aB,aB=r.drewN aE/\Bl r aB:=⟨_,rfl,QC zk aE⟩;obtain⟨r,hV,h⟩:=h;rw[<- hV];have v:=qh (λ(d:World) (f:Bl r d)=>v.o d (h.trans (f.mono h.size)));have x:=qh (λ(d:World) (f:Bl r d)=>x.o d (h.trans (f.mono h.size)));have q:=qh (λ(d:World) (f:Bl r d)=>q.o d (h.trans (f.mono h.size)));have m:=qh<|m.o.bl h;have HG:=qk HG h;clear hV h AM;have Y:=x;have aa:=v
   refine Ji 8 (JI [(6,Sp.made (λk:Option Addr × Nat × Nat=>.slice k.1 k.2.1 k.2.2) (ja1 r.heap.size N)),
     (7,Sp.made (λk:Option Addr × Nat=>Jv K k.1 (Ja N) k.2) (λk d=>Own 128 d r.heap.size k.1 (Ja N) k.2 (dgi N)))])
    (λd=>Bl r d) Zk Zk
    (Jb (Sp.Jf ja1.keeps) (Jb (Sp.Jf λk F d R f=>R.below f) Jh)) (λ_ _ R f=>R.trans (f.mono R.size)) (zk.drew) ?_
   simp only[zx,zy,zv,zw]
   iterate 6
    (refine Jy rfl rfl ?_ (λd i=>?_) ?_;rotate_left;· (have j:=Has.world i;(have y:=Y.o _ j;have y:=aa.o _ j);clear i;go_simp;try rfl))
   (refine Jc rfl rfl (λd i=>?_) ?_;· (have j:=Has.world i;go_simp;((refine(q.o d j).mono ?_;rintro e ae ⟨a,au,cap,o,rfl,B,C,J,D,q5⟩;exact⟨_,rfl,⟨⟨a,au,cap,rfl⟩,⟨a,au,cap,rfl,o,B,C,J,D.mono j.size⟩⟩,q5⟩))))
   rintro _ ⟨k,rfl⟩
   (refine Jc rfl rfl (λd i=>?_) ?_;· (have j:=Has.world i;go_simp;((have h7:=jd5 (x:=k) (b:=r.heap.size) (N:=N) (i.fact 6 Zk);obtain⟨o,B,C,J,D⟩:=h7;refine(Xk _ K _ _ _ N r.heap.size o d D B J C Z.o).mono ?_;rintro e ae ⟨rfl,f⟩;exact⟨_,rfl,⟨⟨k.1,k.2.2,rfl⟩,⟨k.1,k.2.2,rfl,(XZ D B C).below f⟩⟩,f⟩))))
   rintro _ ⟨ao,rfl⟩;refine Jn (λw5 t E=>?_);have OA:=JU (T:=128) (b:=r.heap.size) (s:=K) (L:=Ja N) (o:=dgi N) (x:=ao) (E 7);have HO:=qh OA;have l:=m.o.bl t;have V:=qh l;obtain⟨av,aw,ax,ay⟩:=l.all;have X:=qh<|HG.o.trans (t.mono HG.o.size);have aA:=m.o.lt;have ad:=HG.o.size;clear E OA l t v x;go_wp2_with fail
   unfold VK;rw[<- W.o.1,<- W.o.2];refine bodyPost_ret (Je rfl _ _ _ _ _ _ _ rfl (V.o.set _ _) underlying30 rfl Zk) rfl ⟨ao.1,ao.2,rfl,?_,?_⟩
   ·exact((HO.o.oz).oz).mono ad
   ·exact(X.o.sc).sc
  ·obtain⟨N,I⟩:=gn (z1.natAbs-z2.natAbs);obtain⟨z,A⟩:=VL z1 z2 Zo y;rw[<- I] at z;rw[<- z] at A;obtain⟨K,u⟩:=gn (decide (z1+z2<0));rw[<- u] at A;have Z:=qh A;have W:=qh<|And.intro z u;have q:=qh (λ(d:World) (f:Bl r d)=>jft z1.natAbs z2.natAbs x1 Q d1 d2 d (M.o.1.below f) (M.o.2.below f) HL.o.1 Zo);have AM:=qh<|Vo z1.natAbs z2.natAbs x1 Q d1 d2 r M.o.1 M.o.2 Zo Zo
   have hc:decide (Js (z1.natAbs:Int) (z2.natAbs:Int)<0)=false:=by
    refine zo ?_
    rcases Nat.lt_or_ge z2.natAbs z1.natAbs with R | R
    ·rw[JS Zo];omega
    ·rw[J7 Zo];omega
   rw[<- I] at q
   have e0:(decide (z1<0)==decide (z2<0))=false:=by simpa using y
   generalize Js (z1.natAbs:Int) (z2.natAbs:Int)=cc at AM hc
   clear z A I u y az
   go_upto_if 27 with (first
    | (go_at_call 231;refine AM.o.mono ?_;rintro e w2 ⟨rfl,aE,rfl⟩))
   go_upto_region 7 with (fail)
   have h:∃ aB,aB=r.drewN aE/\Bl r aB:=⟨_,rfl,QC zk aE⟩;obtain⟨r,hV,h⟩:=h;rw[<- hV];have v:=qh (λ(d:World) (f:Bl r d)=>v.o d (h.trans (f.mono h.size)));have x:=qh (λ(d:World) (f:Bl r d)=>x.o d (h.trans (f.mono h.size)));have q:=qh (λ(d:World) (f:Bl r d)=>q.o d (h.trans (f.mono h.size)));have m:=qh<|m.o.bl h;have HG:=qk HG h;clear hV h AM;have Y:=v;have aa:=x
   refine Ji 8 (JI [(6,Sp.made (λk:Option Addr × Nat × Nat=>.slice k.1 k.2.1 k.2.2) (ja1 r.heap.size N)),
     (7,Sp.made (λk:Option Addr × Nat=>Jv K k.1 (Ja N) k.2) (λk d=>Own 128 d r.heap.size k.1 (Ja N) k.2 (dgi N)))])
    (λd=>Bl r d) Zk Zk
    (Jb (Sp.Jf ja1.keeps) (Jb (Sp.Jf λk F d R f=>R.below f) Jh)) (λ_ _ R f=>R.trans (f.mono R.size)) (zk.drew) ?_
   simp only[zx,zy,zv,zw]
   iterate 6
    (refine Jy rfl rfl ?_ (λd i=>?_) ?_;rotate_left;· (have j:=Has.world i;(have y:=Y.o _ j;have y:=aa.o _ j);clear i;go_simp;try rfl))
   (refine Jc rfl rfl (λd i=>?_) ?_;· (have j:=Has.world i;go_simp;((refine(q.o d j).mono ?_;rintro e ae ⟨a,au,cap,o,rfl,B,C,J,D,q5⟩;exact⟨_,rfl,⟨⟨a,au,cap,rfl⟩,⟨a,au,cap,rfl,o,B,C,J,D.mono j.size⟩⟩,q5⟩))))
   rintro _ ⟨k,rfl⟩
   (refine Jc rfl rfl (λd i=>?_) ?_;· (have j:=Has.world i;go_simp;((have h7:=jd5 (x:=k) (b:=r.heap.size) (N:=N) (i.fact 6 Zk);obtain⟨o,B,C,J,D⟩:=h7;refine(Xk _ K _ _ _ N r.heap.size o d D B J C Z.o).mono ?_;rintro e ae ⟨rfl,f⟩;exact⟨_,rfl,⟨⟨k.1,k.2.2,rfl⟩,⟨k.1,k.2.2,rfl,(XZ D B C).below f⟩⟩,f⟩))))
   rintro _ ⟨ao,rfl⟩;refine Jn (λw5 t E=>?_);have OA:=JU (T:=128) (b:=r.heap.size) (s:=K) (L:=Ja N) (o:=dgi N) (x:=ao) (E 7);have HO:=qh OA;have l:=m.o.bl t;have V:=qh l;obtain⟨av,aw,ax,ay⟩:=l.all;have X:=qh<|HG.o.trans (t.mono HG.o.size);have aA:=m.o.lt;have ad:=HG.o.size;clear E OA l t v x;go_wp2_with fail
   unfold VK;rw[<- W.o.1,<- W.o.2];refine bodyPost_ret (Je rfl _ _ _ _ _ _ _ rfl (V.o.set _ _) underlying30 rfl Zk) rfl ⟨ao.1,ao.2,rfl,?_,?_⟩
   ·exact((HO.o.oz).oz).mono ad
   ·exact(X.o.sc).sc
theorem Q9 (A:Bool) (C:Option Addr) (m c1:Nat) (M:Nat->Int) (B:Bool) (D:Option Addr) (q c2:Nat) (O:Nat->Int) (i:World)
  (h1:Rd i C m M) (aB:m<=100000000) (an:m<=c1) (h2:Rd i D q O) (aC:q<=100000000) (ao:q<=c2) :
  Cl 193 #[Jv A C m c1,Jv B D q c2] i (VK i (Jp A m M*Jp B q O)):=by
 obtain⟨U,K,r1,l1,m1,O1⟩:=Xw A C m c1 M i h1 Zo an;obtain⟨E,d2,r2,l2,m2,O2⟩:=Xw B D q c2 O i h2 Zo ao
 generalize Jp A m M=z1 at r1 l1 m1 O1 ⊢
 have W:=qh O1;clear O1
 generalize Jp B q O=z2 at r2 l2 m2 O2 ⊢
 have X:=qh O2;clear O2;have HR:=qh<|And.intro r1 r2;clear h1 h2 r1 r2;have u:=qh<|((Bx.new i 30 (.bool A) (.slice C m c1)).alloc (.cells #[.bool B,.slice D q c2] 30)).alloc (.cells #[.bool false,.slice none 0 0] 30);have v:=qh<|(Bx.Zu i (.cells #[.bool A,.slice C m c1] 30) 30 (.bool B) (.slice D q c2)).alloc (.cells #[.bool false,.slice none 0 0] 30);have x:=qh<|Bx.new3 i (.cells #[.bool A,.slice C m c1] 30) (.cells #[.bool B,.slice D q c2] 30) 30 (.bool false) (.slice none 0 0);go_enter func193,ntmps193;go_wp2_with fail
 refine(W.o _ ?_).mono ?_
 ·exact qg
 rintro e w1 ⟨rfl,y⟩;have j:=u.o.bl y;have k:=v.o.bl y;have h:=x.o.bl y;have I:=qh ((zk.alloc (by go_size) _ |>.alloc (by go_size) _ |>.alloc (by go_size) _).trans (y.mono (by go_size)):Bl i w1);have K1:=qh j;have K2:=qh k;have K3:=qh h;obtain⟨aa,ab,ac,ad⟩:=j.all;obtain⟨ae,af,ag,ah⟩:=k.all;clear u v x j k h y;go_wp2_with fail
 refine(X.o _ ?_).mono ?_
 ·have:=I.o;exact qg
 rintro e w2 ⟨rfl,z⟩;have j:=(K1.o.set (.bool (decide (z1<0))) (.slice U (Ja z1.natAbs) K)).below z (by simpa using K1.o.lt);have k:=((K2.o.other (a:=⟨i.heap.size,0,none⟩) Zd (.bool (decide (z1<0)))).other (a:=⟨i.heap.size,1,none⟩) Zd (.slice U (Ja z1.natAbs) K)).below z (by simpa using K2.o.lt);have h:=((K3.o.other (a:=⟨i.heap.size,0,none⟩) Zd (.bool (decide (z1<0)))).other (a:=⟨i.heap.size,1,none⟩) Zd (.slice U (Ja z1.natAbs) K)).below z (by simpa using K3.o.lt);have G2:=qh (((I.o.setCell (by simp) _).setCell (by simp) _).trans (z.mono (by simpa using I.o.size)):Bl i w2);have C1:=qh j;have C2:=qh k;have C3:=qh h;obtain⟨aa,ab,ac,ad⟩:=j.all;obtain⟨ae,af,ag,ah⟩:=k.all;clear K1 K2 K3 j k h z I
 go_upto_region 3 with (fail)
 obtain⟨J,hW⟩:=gn ((w2.setCell ⟨i.heap.size+1,0,none⟩ (.bool (decide (z2<0)))).setCell ⟨i.heap.size+1,1,none⟩ (.slice E (Ja z2.natAbs) d2));have j:=(C1.o.other (a:=⟨i.heap.size+1,0,none⟩) Zd (.bool (decide (z2<0)))).other (a:=⟨i.heap.size+1,1,none⟩) Zd (.slice E (Ja z2.natAbs) d2);have k:=C2.o.set (.bool (decide (z2<0))) (.slice E (Ja z2.natAbs) d2);have h:=(C3.o.other (a:=⟨i.heap.size+1,0,none⟩) Zd (.bool (decide (z2<0)))).other (a:=⟨i.heap.size+1,1,none⟩) Zd (.slice E (Ja z2.natAbs) d2);have F:=(G2.o.setCell (p:=⟨i.heap.size+1,0,none⟩) (by simp) (.bool (decide (z2<0)))).setCell (p:=⟨i.heap.size+1,1,none⟩) (by simp) (.slice E (Ja z2.natAbs) d2);rw[<- hW] at j k h F;rw[<- hW];have HG:=qh F;have u:=qh j;have v:=qh k;have x:=qh h;have Y:=qh (λ(d:World) (f:Bl J d)=>And.intro (u.o.bl f).c0 (u.o.bl f).c1);have Z:=qh (λ(d:World) (f:Bl J d)=>And.intro (v.o.bl f).c0 (v.o.bl f).c1);clear aa ab ac ad ae af ag ah C1 C2 C3 hW G2 W X;have HQ:=qh<|And.intro (HR.o.1.below F) (HR.o.2.below F);have HL:=qh<|And.intro (show Ja z1.natAbs<=100000000 by omega) (show Ja z2.natAbs<=100000000 by omega);clear j k h F;obtain⟨N,hN⟩:=gn (z1.natAbs*z2.natAbs)
 have p1:N=(z1*z2).natAbs:=by rw[hN,Int.natAbs_mul]
 have P:=jfr z1 z2;rw[<- p1] at P;obtain⟨sB,H⟩:=gn (decide (z1*z2<0));rw[<- H] at P;have am:=qh P;have HE:=qh<|And.intro p1 H;have V:=qh (λ(d:World) (f:Bl J d)=>jjx z1.natAbs z2.natAbs U E K d2 d (HQ.o.1.below f) (HQ.o.2.below f) HL.o.1 HL.o.2);rw[<- hN] at V;clear p1 P hN H
 refine Ji 11 (JI [(9,Sp.made (λt:Option Addr × Nat × Nat=>.slice t.1 t.2.1 t.2.2) (ja1 J.heap.size N)),
   (10,Sp.made (λt:Option Addr × Nat=>Jv sB t.1 (Ja N) t.2) (λt d=>Own 128 d J.heap.size t.1 (Ja N) t.2 (dgi N)))])
  (λd=>Bl J d) Zk Zk
  (Jb (Sp.Jf ja1.keeps) (Jb (Sp.Jf λt i d au f=>au.below f) Jh)) (λ_ _ au f=>au.trans (f.mono au.size)) (zk.drew) ?_
 simp only[zx,zy,zv,zw]
 iterate 9
  (refine Jy rfl rfl ?_ (λd l=>?_) ?_;rotate_left;· (have r:=Has.world l;(have hs:=Y.o _ r;have hs:=Z.o _ r);clear l;go_simp;try rfl))
 (refine Jc rfl rfl (λd l=>?_) ?_;· (have r:=Has.world l;go_simp;((refine(V.o d r).mono ?_;rintro e ar ⟨a,aw,cap,o,rfl,Q,R,q3,S,q5⟩;exact⟨_,rfl,⟨⟨a,aw,cap,rfl⟩,⟨a,aw,cap,rfl,o,Q,R,q3,S.mono r.size⟩⟩,q5⟩))))
 rintro _ ⟨t,rfl⟩
 (refine Jc rfl rfl (λd l=>?_) ?_;· (have r:=Has.world l;go_simp;((have h7:=jd5 (x:=t) (b:=J.heap.size) (N:=N) (l.fact 9 Zk);obtain⟨o,Q,R,q3,S⟩:=h7;refine(Xk _ sB _ _ _ N J.heap.size o d S Q q3 R am.o).mono ?_;rintro e ar ⟨rfl,f⟩;exact⟨_,rfl,⟨⟨t.1,t.2.2,rfl⟩,⟨t.1,t.2.2,rfl,(XZ S Q R).below f⟩⟩,f⟩))))
 rintro _ ⟨av,rfl⟩;refine Jn (λw5 G ai=>?_);have OA:=JU (T:=128) (b:=J.heap.size) (s:=sB) (L:=Ja N) (o:=dgi N) (x:=av) (ai 10);have HO:=qh OA;have h:=x.o.bl G;have aj:=qh h;obtain⟨ax,ay,az,aA⟩:=h.all;have ak:=qh<|HG.o.trans (G.mono HG.o.size);have aD:=x.o.lt;have aq:=HG.o.size;clear ai OA h G Y Z;go_wp2_with fail
 unfold VK;rw[<- HE.o.1,<- HE.o.2];refine bodyPost_ret (Je rfl _ _ _ _ _ _ _ rfl (aj.o.set _ _) underlying30 rfl Zk) rfl ⟨av.1,av.2,rfl,?_,?_⟩
 ·exact((HO.o.oz).oz).mono aq
 ·exact(ak.o.sc).sc
end Limb
namespace Book
open Go.RowKit Go.Sort Go.FreshH Limb
def Arr (w:World) (vb k:Nat) (A:Nat->Option Addr) (N C:Nat->Nat) (X:Nat->Value):Prop :=
 ∃ m f,w.rowIs vb 127 m f/\∀ j,j<k->3*j+2<m/\f (3*j)=.slice (A j) (N j) (C j)/\f (3*j+1)=X j/\f (3*j+2)=.int .i64 ((j:Int)+1)
theorem Arr.cells {j:World} {d k:Nat} {s:Nat->Option Addr} {u t:Nat->Nat} {v:Nat->Value} (x:Arr j d k s u t v) {i:Nat} (r:i<k) :
  j.cell? ⟨d,i*3,none⟩=some (.slice (s i) (u i) (t i))/\j.cell? ⟨d,i*3+1,none⟩=some (v i)/\j.cell? ⟨d,i*3+2,none⟩=some (.int .i64 ((i:Int)+1))/\(∀ z,j.frozen? ⟨d,z,none⟩=false)/\d<j.heap.size:=by
 obtain⟨A,f,h,q⟩:=x;obtain⟨y,l,m,p⟩:=q i r;rw[Nat.mul_comm i 3];exact⟨by rw[<- l];exact h.cell Zo,by rw[<- m];exact h.cell Zo,by rw[<- p];exact h.cell Zo,h.frozen,h.lt⟩
theorem Arr.lt {i:World} {d k:Nat} {j:Nat->Option Addr} {m l:Nat->Nat} {p:Nat->Value} (q:Arr i d k j m l p):d<i.heap.size:=by
 obtain⟨s,f,h,r⟩:=q;exact h.lt
def UA (k:Nat) (A:Nat->Option Addr) (g:Nat):Prop:=∃ j,j<k/\∃ p,A j=some p/\p.block=g
def Part (k:Nat) (A:Nat->Option Addr):Prop:=∀ i,i<k->∀ j,j<k->i≠j->∀ p q,A i=some p->A j=some q->p.block≠q.block
theorem own_step {k h x z:Nat} {j:Nat->Option Addr} {l y:Nat->Nat} {m:Nat->Nat->Int} {B:World} {v:Int} (p:Part k j) (i:∀ d,d<k->Own 128 B 0 (j d) (l d) (y d) (m d)) (r:h<k) (hg:j h=some ⟨z,0,none⟩) (t:x<l h) (u:0<=v/\v<=4294967295) :
  ∀ d,d<k->Own 128 (B.setCell ⟨z,x,none⟩ (.int .u32 v)) 0 (j d) (l d) (y d) (if d=h then upd (m h) x v else m d):=by
 intro d f;by_cases e:d=h
 ·subst e;rw[if_pos rfl,hg];have A:=i d f;rw[hg] at A;exact A.put t u
 ·rw[if_neg e]
  exact(i d f).keep λC s=>Below.heap_setCell _ _ _ _ (λq=>p d f h r e C _ s hg q)
def hcell (a:Option Addr) (n c:Nat) (x:Value) (q:Int) (i:Nat):Value:=if i=0 then .slice a n c else if i=1 then x else .int .i64 q
end Book
namespace Limb
open Go.RowKit Go.Sort Go.FreshH
theorem Zf (d k:Nat):d/pw k/1000000000=d/pw (k+1):=by rw[JR,Nat.div_div_eq_div_mul]
theorem Z7 {M k:Nat}:0<M/pw k↔k<Ja M:=by
 constructor
 ·intro f;refine jib ?_
  rcases Nat.lt_or_ge M (pw k) with d | d
  ·rw[Nat.div_eq_of_lt d] at f;omega
  ·exact d
 ·intro f;exact Nat.div_pos (Zl f) (Q5 k)
theorem UB {d:Nat} (h:0<d) (i:d<=9223372036854775808):∃ f,IntKind.u64.wrap (-(d:Int))=f/\IntKind.u64.wrap (-f)=(d:Int):=by
 refine⟨18446744073709551616-(d:Int),?_,?_⟩
 ·show(-(d:Int))%18446744073709551616=_;omega
 ·show(-(18446744073709551616-(d:Int)))%18446744073709551616=_;omega
theorem len3 {d:Nat} (f:d<=9223372036854775808):Ja d<=3:=Xg (Nat.lt_of_le_of_lt f Ze)
theorem jb2 (d:Nat) (h:0<d):(true&&decide (0<Ja d))=decide (-(d:Int)<0):=by
 have f:0<Ja d:=by
  have:=X6 (m:=d) Zo;omega
 rw[decide_eq_true f,decide_eq_true (show -(d:Int)<0 by omega)];rfl
theorem jb3 (d:Nat):(false&&decide (0<Ja d))=decide ((d:Int)<0):=by
 rw[zo (show ¬(d:Int)<0 by omega)];rfl
theorem of64_pos (d:Nat) (B:World) (ab:d<=9223372036854775807):Cl 106 #[.int .i64 (d:Int)] B (VJ B (d:Int)):=by
 obtain⟨i0,G,X,Y,Z⟩:=info_parts QQ;have e1:=IntWalk.u64_in (d:Int) Zo;have am:¬(d:Int)<0:=Zo;have aj:(0:Int)<=(d:Int):=Zo;have K:=qh (show d<=9223372036854775808 by omega);clear ab;go_enter func106,ntmps106;have x:=qh<|len3 K.o;go_wp2;go_loopw [3,4] (λac v wr=>∃ k:Nat,k<=Ja d/\ac=.int .u64 ((d/pw k:Nat):Int)/\wr.ownsRow (B.heap.size+1) 128 1 v k (ucs (dgi d) k)/\Bl B wr/\Bx wr B.heap.size 30 (.bool false) (.slice none 0 0)) (λac _ _=>(intOf ac).toNat)
 case atStart=>exact⟨0,Nat.zero_le _,by rw[Qj,Nat.div_one],Own.Ke _ _ _,qg,Bx.new _ _ _ _⟩
 case round =>
  obtain⟨k,V,rfl,U,R,Q⟩:=hrel;obtain⟨z,s⟩:=gn (d/pw k);have M:=qh s;have E:=qh (show z<=9223372036854775808 by rw[s];exact zm (Nat.div_le_self _ _) K.o);have D:=qh<|Z7 (M:=d) (k:=k);have l:=qh<|Zf d k;rw[<- s] at D l ⊢;have r:=qh U;have HG:=qh R;have q:=qh Q;have HK:=qh V;clear U R Q s V;by_cases O:0<z
  ·have ak:k<Ja d:=D.o.1 O
   have t1:(z:Int).tmod 1000000000=dgi d k:=by
    rw[Int.tmod_eq_emod_of_nonneg Zo]
    have ai:z%1000000000=dg d k:=by rw[M.o];rfl
    show _=((dg d k:Nat):Int);omega
   obtain⟨aa,F⟩:=gn (d/pw (k+1));rw[<- F] at l;have HY:=qh F;clear F
   have t2:(z:Int).tdiv 1000000000=(aa:Int):=by rw[Int.tdiv_eq_ediv_of_nonneg Zo,<- l.o];omega
   have ah:0<=dgi d k/\dgi d k<=999999999:=by have:=Jr d (k+1) k Zo;omega
   have u1:=IntWalk.u32_in (dgi d k) Zo;have u2:=IntWalk.u64_in (dgi d k) Zo;have u3:=IntWalk.u64_in (aa:Int) (by have P:=l.o;have:=E.o;omega);have an:0<(z:Int):=Zo;have S:=x.o;have J:=qh (show aa<z by have P:=l.o;omega);go_wp2_with (first | (at_builtin;refine wpList_append_own _ rfl _ _ 28 rfl (B.heap.size+1) 128 i0 (.int .u32 0) 1 4 underlying28 G X Y Z rfl Ze _ _ _ rfl (r.o.alloc _) ⟨wr.heap.size,0,none⟩ 1 1 [.int .u32 (dgi d k)] rfl rfl ?c1 ?c2 ?c3 ?c4 ?c5 ?_))
   case c1 =>
    intro aq ar t
    match aq,t with
    | 0,t=>simp at t;subst t;simp[Addr.add]
   case c2=>intro ar W;simp at W;subst W;rfl
   case c3=>unfold maxLen;omega
   case c4=>omega
   case c5=>have:=q.o.lt;simp;omega
   intro v' w1 i f _;have O2:=qh (show w1.ownsRow (B.heap.size+1) 128 1 v' (k+1) (ucs (dgi d) (k+1)) by rw[Q0];exact i);have G2:=qh<|(HG.o.alloc HG.o.size _).grown f (by have:=HG.o.size;simp;omega) (λg hg=>Nat.le_of_succ_le (JM r.o hg));have B2:=qh<|(q.o.alloc (.cells #[.int .u32 (dgi d k)] 128)).of (f.block B.heap.size (q.o.alloc _).lt (λe=>by have:=JM r.o e.symm;omega));clear i f;go_wp2;go_roundw
   case rel=>exact⟨k+1,Zo,by rw[HY.o],O2.o,G2.o,B2.o⟩
   case measure=>simp[intOf];have P:=J.o;omega
  ·obtain rfl:z=0:=Zo
   obtain rfl:k=Ja d:=by have:=HK.o;have:=mt D.o.2 Zo;omega
   obtain⟨a,cap,rfl,A,p⟩:=Own.Zn r.o (λao G=>by have:=Jr d (Ja d) ao G;omega);have m:=qh A;have u:=qh p;clear O A p;have S:=x.o;have j:=qh<|Zw false a (Ja d) cap (dgi d) wr m.o.rd (Jr _ _) Zo m.o.le u.o;rw[Jz,Int.toNat_natCast,jb3 d] at j;go_wp2_with fail
   refine j.o.mono ?_;rintro e w2 ⟨rfl,h⟩;have C:=q.o.bl h;have H:=qh C;have y:=qh<|m.o.below h;have I:=qh<|HG.o.trans (h.mono HG.o.size);obtain⟨ad,ae,af,ag⟩:=C.all;clear C h j;go_wp2;refine bodyPost_ret (Je rfl _ _ _ _ _ _ _ rfl (H.o.set _ _) underlying30 rfl Zk) rfl ⟨a,by first | (rw[show((d:Int)).natAbs=d by omega];done) | (rw[show((d:Int)).natAbs=d by omega,decide_eq_true (show -(d:Int)<0 by omega)]),?_,?_,?_⟩
   ·rw[show((d:Int)).natAbs=d by omega];exact(((y.o.cut zj (λao _=>rfl)).oz).oz).mono Zo
   ·rw[show((d:Int)).natAbs=d by omega];intro ab;have h1:=y.o.le;have h2:=u.o ab;omega
   ·exact(I.o.sc).sc
theorem of64_neg (d:Nat) (C:World) (p:0<d) (aa:d<=9223372036854775808):Cl 106 #[.int .i64 (-(d:Int))] C (VJ C (-(d:Int))):=by
 obtain⟨i0,H,X,Y,Z⟩:=info_parts QQ;obtain⟨au,e1,e2⟩:=UB p aa;have ak:-(d:Int)<0:=Zo;have H0:=qh p;have am:(0:Int)<(d:Int):=Zo;have M:=qh (show d<=9223372036854775808 by omega);clear aa;go_enter func106,ntmps106;have y:=qh<|len3 M.o;go_wp2;go_loopw [3,4] (λac v wr=>∃ k:Nat,k<=Ja d/\ac=.int .u64 ((d/pw k:Nat):Int)/\wr.ownsRow (C.heap.size+1) 128 1 v k (ucs (dgi d) k)/\Bl C wr/\Bx wr C.heap.size 30 (.bool false) (.slice none 0 0)) (λac _ _=>(intOf ac).toNat)
 case atStart=>exact⟨0,Nat.zero_le _,by rw[Qj,Nat.div_one],Own.Ke _ _ _,qg,Bx.new _ _ _ _⟩
 case round =>
  obtain⟨k,V,rfl,U,R,Q⟩:=hrel;obtain⟨A,t⟩:=gn (d/pw k);have O:=qh t;have F:=qh (show A<=9223372036854775808 by rw[t];exact zm (Nat.div_le_self _ _) M.o);have E:=qh<|Z7 (M:=d) (k:=k);have l:=qh<|Zf d k;rw[<- t] at E l ⊢;have s:=qh U;have HG:=qh R;have r:=qh Q;have HK:=qh V;clear U R Q t V;by_cases p:0<A
  ·have aj:k<Ja d:=E.o.1 p
   have t1:(A:Int).tmod 1000000000=dgi d k:=by
    rw[Int.tmod_eq_emod_of_nonneg Zo]
    have ai:A%1000000000=dg d k:=by rw[O.o];rfl
    show _=((dg d k:Nat):Int);omega
   obtain⟨ab,G⟩:=gn (d/pw (k+1));rw[<- G] at l;have HY:=qh G;clear G
   have t2:(A:Int).tdiv 1000000000=(ab:Int):=by rw[Int.tdiv_eq_ediv_of_nonneg Zo,<- l.o];omega
   have ah:0<=dgi d k/\dgi d k<=999999999:=by have:=Jr d (k+1) k Zo;omega
   have u1:=IntWalk.u32_in (dgi d k) Zo;have u2:=IntWalk.u64_in (dgi d k) Zo;have u3:=IntWalk.u64_in (ab:Int) (by have P:=l.o;have:=F.o;omega);have an:0<(A:Int):=Zo;have S:=y.o;have K:=qh (show ab<A by have P:=l.o;omega);go_wp2_with (first | (at_builtin;refine wpList_append_own _ rfl _ _ 28 rfl (C.heap.size+1) 128 i0 (.int .u32 0) 1 4 underlying28 H X Y Z rfl Ze _ _ _ rfl (s.o.alloc _) ⟨wr.heap.size,0,none⟩ 1 1 [.int .u32 (dgi d k)] rfl rfl ?c1 ?c2 ?c3 ?c4 ?c5 ?_))
   case c1 =>
    intro aq ar u
    match aq,u with
    | 0,u=>simp at u;subst u;simp[Addr.add]
   case c2=>intro ar W;simp at W;subst W;rfl
   case c3=>unfold maxLen;omega
   case c4=>omega
   case c5=>have:=r.o.lt;simp;omega
   intro v' w1 i f _;have O2:=qh (show w1.ownsRow (C.heap.size+1) 128 1 v' (k+1) (ucs (dgi d) (k+1)) by rw[Q0];exact i);have G2:=qh<|(HG.o.alloc HG.o.size _).grown f (by have:=HG.o.size;simp;omega) (λg hg=>Nat.le_of_succ_le (JM s.o hg));have B2:=qh<|(r.o.alloc (.cells #[.int .u32 (dgi d k)] 128)).of (f.block C.heap.size (r.o.alloc _).lt (λe=>by have:=JM s.o e.symm;omega));clear i f;go_wp2;go_roundw
   case rel=>exact⟨k+1,Zo,by rw[HY.o],O2.o,G2.o,B2.o⟩
   case measure=>simp[intOf];have P:=K.o;omega
  ·obtain rfl:A=0:=Zo
   obtain rfl:k=Ja d:=by have:=HK.o;have:=mt E.o.2 Zo;omega
   obtain⟨a,cap,rfl,B,q⟩:=Own.Zn s.o (λao H=>by have:=Jr d (Ja d) ao H;omega);have m:=qh B;have x:=qh q;clear p B q;have S:=y.o;have j:=qh<|Zw true a (Ja d) cap (dgi d) wr m.o.rd (Jr _ _) Zo m.o.le x.o;rw[Jz,Int.toNat_natCast,jb2 d H0.o] at j;go_wp2_with fail
   refine j.o.mono ?_;rintro e w2 ⟨rfl,h⟩;have D:=r.o.bl h;have I:=qh D;have z:=qh<|m.o.below h;have J:=qh<|HG.o.trans (h.mono HG.o.size);obtain⟨ad,ae,af,ag⟩:=D.all;clear D h j;go_wp2;refine bodyPost_ret (Je rfl _ _ _ _ _ _ _ rfl (I.o.set _ _) underlying30 rfl Zk) rfl ⟨a,by first | (rw[show(-(d:Int)).natAbs=d by omega];done) | (rw[show(-(d:Int)).natAbs=d by omega,decide_eq_true (show -(d:Int)<0 by omega)]),?_,?_,?_⟩
   ·rw[show(-(d:Int)).natAbs=d by omega];exact(((z.o.cut zj (λao _=>rfl)).oz).oz).mono Zo
   ·rw[show(-(d:Int)).natAbs=d by omega];intro aa;have h1:=z.o.le;have h2:=x.o aa;omega
   ·exact(J.o.sc).sc
theorem jjy (d:Nat) (B:World) (ao:d<=9223372036854775807):Cl 153 #[.int .i64 (d:Int)] B (VK B (d:Int)):=by
 obtain⟨i0,G,X,Y,Z⟩:=info_parts QQ;have e1:=IntWalk.u64_in (d:Int) Zo;have am:¬(d:Int)<0:=Zo;have aj:(0:Int)<=(d:Int):=Zo;have K:=qh (show d<=9223372036854775808 by omega);clear ao;go_enter func153,ntmps153;have t:=qh<|len3 K.o;go_wp2;go_loopw [4,5] (λab v wr=>∃ k:Nat,k<=Ja d/\ab=.int .u64 ((d/pw k:Nat):Int)/\wr.ownsRow (B.heap.size+1) 128 1 v k (ucs (dgi d) k)/\Bl B wr/\Bx wr B.heap.size 30 (.bool false) (.slice none 0 0)) (λab _ _=>(intOf ab).toNat)
 case atStart=>exact⟨0,Nat.zero_le _,by rw[Qj,Nat.div_one],Own.Ke _ _ _,qg,Bx.new _ _ _ _⟩
 case round =>
  obtain⟨k,V,rfl,U,R,Q⟩:=hrel;obtain⟨z,r⟩:=gn (d/pw k);have M:=qh r;have E:=qh (show z<=9223372036854775808 by rw[r];exact zm (Nat.div_le_self _ _) K.o);have D:=qh<|Z7 (M:=d) (k:=k);have j:=qh<|Zf d k;rw[<- r] at D j ⊢;have q:=qh U;have HG:=qh R;have p:=qh Q;have HK:=qh V;clear U R Q r V;by_cases O:0<z
  ·have ak:k<Ja d:=D.o.1 O
   have t1:(z:Int).tmod 1000000000=dgi d k:=by
    rw[Int.tmod_eq_emod_of_nonneg Zo]
    have ai:z%1000000000=dg d k:=by rw[M.o];rfl
    show _=((dg d k:Nat):Int);omega
   obtain⟨aa,F⟩:=gn (d/pw (k+1));rw[<- F] at j;have HY:=qh F;clear F
   have t2:(z:Int).tdiv 1000000000=(aa:Int):=by rw[Int.tdiv_eq_ediv_of_nonneg Zo,<- j.o];omega
   have ah:0<=dgi d k/\dgi d k<=999999999:=by have:=Jr d (k+1) k Zo;omega
   have u1:=IntWalk.u32_in (dgi d k) Zo;have u2:=IntWalk.u64_in (dgi d k) Zo;have u3:=IntWalk.u64_in (aa:Int) (by have P:=j.o;have:=E.o;omega);have an:0<(z:Int):=Zo;have S:=t.o;have J:=qh (show aa<z by have P:=j.o;omega);go_wp2_with (first | (at_builtin;refine wpList_append_own _ rfl _ _ 28 rfl (B.heap.size+1) 128 i0 (.int .u32 0) 1 4 underlying28 G X Y Z rfl Ze _ _ _ rfl (q.o.alloc _) ⟨wr.heap.size,0,none⟩ 1 1 [.int .u32 (dgi d k)] rfl rfl ?c1 ?c2 ?c3 ?c4 ?c5 ?_))
   case c1 =>
    intro ar au s
    match ar,s with
    | 0,s=>simp at s;subst s;simp[Addr.add]
   case c2=>intro au W;simp at W;subst W;rfl
   case c3=>unfold maxLen;omega
   case c4=>omega
   case c5=>have:=p.o.lt;simp;omega
   intro v' w1 i f _;have O2:=qh (show w1.ownsRow (B.heap.size+1) 128 1 v' (k+1) (ucs (dgi d) (k+1)) by rw[Q0];exact i);have G2:=qh<|(HG.o.alloc HG.o.size _).grown f (by have:=HG.o.size;simp;omega) (λg hg=>Nat.le_of_succ_le (JM q.o hg));have B2:=qh<|(p.o.alloc (.cells #[.int .u32 (dgi d k)] 128)).of (f.block B.heap.size (p.o.alloc _).lt (λe=>by have:=JM q.o e.symm;omega));clear i f;go_wp2;go_roundw
   case rel=>exact⟨k+1,Zo,by rw[HY.o],O2.o,G2.o,B2.o⟩
   case measure=>simp[intOf];have P:=J.o;omega
  ·obtain rfl:z=0:=Zo
   obtain rfl:k=Ja d:=by have:=HK.o;have:=mt D.o.2 Zo;omega
   obtain⟨a,cap,rfl,A,l⟩:=Own.Zn q.o (λaq G=>by have:=Jr d (Ja d) aq G;omega);have x:=qh A;have ac:=qh l;clear O A l;have S:=t.o;have y:=qh<|Xk false (decide ((d:Int)<0)) a (Ja d) cap d _ (dgi d) wr x.o (Jr _ _) Zo (Jz d) (jb3 d);go_wp2_with fail
   refine y.o.mono ?_;rintro e w2 ⟨rfl,h⟩;have C:=p.o.bl h;have H:=qh C;have u:=qh<|x.o.below h;have I:=qh<|HG.o.trans (h.mono HG.o.size);obtain⟨ad,ae,af,ag⟩:=C.all;clear C h y;go_wp2_with fail
   have m:(((d:Int):Int)).natAbs=d:=Zo;rw[<- m] at u;refine bodyPost_ret (Je rfl _ _ _ _ _ _ _ rfl (H.o.set _ _) underlying30 rfl Zk) rfl ⟨a,cap,by first | (rw[m];done) | (rw[m,decide_eq_true (show -(d:Int)<0 by omega)]),?_,?_⟩
   ·exact((u.o.oz).oz).mono Zo
   ·exact(I.o.sc).sc
theorem jjz (d:Nat) (C:World) (l:0<d) (ah:d<=9223372036854775808):Cl 153 #[.int .i64 (-(d:Int))] C (VK C (-(d:Int))):=by
 obtain⟨i0,H,X,Y,Z⟩:=info_parts QQ;obtain⟨av,e1,e2⟩:=UB l ah;have am:-(d:Int)<0:=Zo;have H0:=qh l;have an:(0:Int)<(d:Int):=Zo;have M:=qh (show d<=9223372036854775808 by omega);clear ah;go_enter func153,ntmps153;have u:=qh<|len3 M.o;go_wp2;go_loopw [4,5] (λab v wr=>∃ k:Nat,k<=Ja d/\ab=.int .u64 ((d/pw k:Nat):Int)/\wr.ownsRow (C.heap.size+1) 128 1 v k (ucs (dgi d) k)/\Bl C wr/\Bx wr C.heap.size 30 (.bool false) (.slice none 0 0)) (λab _ _=>(intOf ab).toNat)
 case atStart=>exact⟨0,Nat.zero_le _,by rw[Qj,Nat.div_one],Own.Ke _ _ _,qg,Bx.new _ _ _ _⟩
 case round =>
  obtain⟨k,V,rfl,U,R,Q⟩:=hrel;obtain⟨A,s⟩:=gn (d/pw k);have O:=qh s;have F:=qh (show A<=9223372036854775808 by rw[s];exact zm (Nat.div_le_self _ _) M.o);have E:=qh<|Z7 (M:=d) (k:=k);have j:=qh<|Zf d k;rw[<- s] at E j ⊢;have r:=qh U;have HG:=qh R;have q:=qh Q;have HK:=qh V;clear U R Q s V;by_cases l:0<A
  ·have ak:k<Ja d:=E.o.1 l
   have t1:(A:Int).tmod 1000000000=dgi d k:=by
    rw[Int.tmod_eq_emod_of_nonneg Zo]
    have aj:A%1000000000=dg d k:=by rw[O.o];rfl
    show _=((dg d k:Nat):Int);omega
   obtain⟨aa,G⟩:=gn (d/pw (k+1));rw[<- G] at j;have HY:=qh G;clear G
   have t2:(A:Int).tdiv 1000000000=(aa:Int):=by rw[Int.tdiv_eq_ediv_of_nonneg Zo,<- j.o];omega
   have ai:0<=dgi d k/\dgi d k<=999999999:=by have:=Jr d (k+1) k Zo;omega
   have u1:=IntWalk.u32_in (dgi d k) Zo;have u2:=IntWalk.u64_in (dgi d k) Zo;have u3:=IntWalk.u64_in (aa:Int) (by have P:=j.o;have:=F.o;omega);have ao:0<(A:Int):=Zo;have S:=u.o;have K:=qh (show aa<A by have P:=j.o;omega);go_wp2_with (first | (at_builtin;refine wpList_append_own _ rfl _ _ 28 rfl (C.heap.size+1) 128 i0 (.int .u32 0) 1 4 underlying28 H X Y Z rfl Ze _ _ _ rfl (r.o.alloc _) ⟨wr.heap.size,0,none⟩ 1 1 [.int .u32 (dgi d k)] rfl rfl ?c1 ?c2 ?c3 ?c4 ?c5 ?_))
   case c1 =>
    intro ar au t
    match ar,t with
    | 0,t=>simp at t;subst t;simp[Addr.add]
   case c2=>intro au W;simp at W;subst W;rfl
   case c3=>unfold maxLen;omega
   case c4=>omega
   case c5=>have:=q.o.lt;simp;omega
   intro v' w1 i f _;have O2:=qh (show w1.ownsRow (C.heap.size+1) 128 1 v' (k+1) (ucs (dgi d) (k+1)) by rw[Q0];exact i);have G2:=qh<|(HG.o.alloc HG.o.size _).grown f (by have:=HG.o.size;simp;omega) (λg hg=>Nat.le_of_succ_le (JM r.o hg));have B2:=qh<|(q.o.alloc (.cells #[.int .u32 (dgi d k)] 128)).of (f.block C.heap.size (q.o.alloc _).lt (λe=>by have:=JM r.o e.symm;omega));clear i f;go_wp2;go_roundw
   case rel=>exact⟨k+1,Zo,by rw[HY.o],O2.o,G2.o,B2.o⟩
   case measure=>simp[intOf];have P:=K.o;omega
  ·obtain rfl:A=0:=Zo
   obtain rfl:k=Ja d:=by have:=HK.o;have:=mt E.o.2 Zo;omega
   obtain⟨a,cap,rfl,B,m⟩:=Own.Zn r.o (λaq H=>by have:=Jr d (Ja d) aq H;omega);have y:=qh B;have ac:=qh m;clear l B m;have S:=u.o;have z:=qh<|Xk true (decide ((-(d:Int))<0)) a (Ja d) cap d _ (dgi d) wr y.o (Jr _ _) Zo (Jz d) (jb2 d H0.o);go_wp2_with fail
   refine z.o.mono ?_;rintro e w2 ⟨rfl,h⟩;have D:=q.o.bl h;have I:=qh D;have x:=qh<|y.o.below h;have J:=qh<|HG.o.trans (h.mono HG.o.size);obtain⟨ad,ae,af,ag⟩:=D.all;clear D h z;go_wp2_with fail
   have p:(((-(d:Int)):Int)).natAbs=d:=Zo;rw[<- p] at x;refine bodyPost_ret (Je rfl _ _ _ _ _ _ _ rfl (I.o.set _ _) underlying30 rfl Zk) rfl ⟨a,cap,by first | (rw[p];done) | (rw[p,decide_eq_true (show -(d:Int)<0 by omega)]),?_,?_⟩
   ·exact((x.o.oz).oz).mono Zo
   ·exact(J.o.sc).sc
theorem X7 (n:Int) (f:World) (i:-9223372036854775808<=n) (j:n<=9223372036854775807):Cl 106 #[.int .i64 n] f (VJ f n):=by
 rcases Int.lt_or_le n 0 with h | h
 ·obtain⟨d,rfl⟩:∃ d:Nat,n = -(d:Int):=⟨n.natAbs,Zo⟩;exact of64_neg d f Zo Zo
 ·obtain⟨d,rfl⟩:∃ d:Nat,n=(d:Int):=⟨n.natAbs,Zo⟩;exact of64_pos d f Zo
theorem Vp (n:Int) (f:World) (i:-9223372036854775808<=n) (j:n<=9223372036854775807):Cl 153 #[.int .i64 n] f (VK f n):=by
 rcases Int.lt_or_le n 0 with h | h
 ·obtain⟨d,rfl⟩:∃ d:Nat,n = -(d:Int):=⟨n.natAbs,Zo⟩;exact jjz d f Zo Zo
 ·obtain⟨d,rfl⟩:∃ d:Nat,n=(d:Int):=⟨n.natAbs,Zo⟩;exact jjy d f Zo
end Limb
end Go.Proofs.YthacfgmdihcffaaGreatDoor
