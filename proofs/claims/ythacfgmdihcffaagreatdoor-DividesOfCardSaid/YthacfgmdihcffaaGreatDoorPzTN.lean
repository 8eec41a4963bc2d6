/-
  Plain laws for the document's own ways with sums: merging, scaling, rows of products, rounds of sums.
-/
import Derived.Test.YthacfgmdihcffaaGreatDoorPzTI
import Derived.Test.YthacfgmdihcffaaGreatDoorPzTM
import Derived.Deep.DeepHandedRow
import Derived.Lib.LaidTab
import Derived.Lay
import Derived.MakeChecks
import Derived.Stop.LaidErr
import Derived.Deep.DeepWitnessRowRef
import Derived.Lib.CutLaws
import Derived.Maps.RangeRun
set_option linter.unusedSimpArgs false
set_option linter.unusedVariables false
set_option maxHeartbeats 16000000
set_option maxRecDepth 100000
open Go.Proofs.Tryz
namespace Go.Proofs.YthacfgmdihcffaaGreatDoor
namespace Limb
open Go.RowKit Go.Sort
structure NumR (w:World) (z:Int) (a:Option Addr) (c:Nat):Prop where
 rd:Rd w a (Ja z.natAbs) (dgi z.natAbs)
 le:Ja z.natAbs<=c
abbrev numC (z:Int) (a:Option Addr) (c:Nat):Value:=Jv (decide (z<0)) a (Ja z.natAbs) c
open Classical in
theorem ja4 (a b:Option Addr) (n h I J:Nat) (o j:Nat->Int) (w:World) (z:Rd w a n o) (A:Rd w b h j) (W:n<=1000000000) (l:h<=1000000000) :
  Cl 174 #[.slice a n I,.slice b h J] w λe P=>e=.returned (.bool (decide (n=h/\∀ c,c<n->o c=j c)))/\∃ h,P=w.drewN h:=by
 have E:=qh z;have F:=qh A;clear z A;obtain⟨S,i⟩:=gn (decide (n=h/\∀ c,c<n->o c=j c));rw[<- i];by_cases q:n=h
 ·subst q;have U:=qh (λ(y:∀ c,c<n->o c=j c)=>(i.trans (decide_eq_true ⟨rfl,y⟩):S=true));have V:=qh (λ(c:Nat) (L:c<n) (y:o c≠j c)=>(i.trans (zo (λK=>y (K.2 c L))):S=false));clear i;go_enter func174,ntmps174;go_wp2;go_loopw [5] (λc wr=>∃ d:Nat,d<=n/\c=.int .i64 d/\(∀ v,v<d->o v=j v)/\∃ h,wr=w.drewN h) (λc _=>n-(intOf c).toNat)
  case atStart=>exact⟨0,Zo,rfl,λv M=>Zo,0,rfl⟩
  case round =>
   obtain⟨d,T,rfl,B,l⟩:=hrel;have r:=qh l;have x:=qh B
   have k:∀ j,wr.cell? j=w.cell? j:=by obtain⟨h,rfl⟩:=l;intro j;rfl
   clear l B;by_cases s:d<n
   ·obtain⟨G,N,rfl,m⟩:=E.o.cells Zo;obtain⟨H,O,rfl,p⟩:=F.o.cells Zo;have c1:wr.cell? ⟨G,N+d,none⟩=some (.int .u32 (o d)):=(k _).trans (m d s);have c2:wr.cell? ⟨H,O+d,none⟩=some (.int .u32 (j d)):=(k _).trans (p d s);obtain⟨Q,t⟩:=gn (o d);obtain⟨R,u⟩:=gn (j d);rw[<- t] at c1;rw[<- u] at c2;have f:=qh<|And.intro t u;clear m p k t u;by_cases g:Q=R
    ·have C:(Q==R)=true:=by simpa using g
     subst g;go_wp2;go_quiet (fail);go_wp2;go_roundw
     case rel =>
      refine⟨d+1,Zo,by go_num,λv M=>?_,by obtain⟨h,e⟩:=r.o;exact⟨_,by rw[e,World.drewN_drewN]⟩⟩;by_cases e:v=d
      ·subst e;rw[<- f.o.1,<- f.o.2]
      ·exact x.o v Zo
     case measure=>simp[intOf];omega
    ·have C:(Q==R)=false:=by simpa using g
     have D:=qh<|V.o d s (by rw[<- f.o.1,<- f.o.2];exact g);go_wp2;go_quiet (fail);go_wp2;go_ret;exact⟨by rw[D.o];rfl,by obtain⟨h,e⟩:=r.o;exact⟨_,by rw[e,World.drewN_drewN]⟩⟩
   ·obtain rfl:d=n:=Zo;have D:=qh<|U.o x.o;clear k;go_wp2;go_ret;exact⟨by rw[D.o];rfl,r.o⟩
 ·have C:¬(n:Int)=(h:Int):=Zo;rw[i,zo (λy=>q y.1)];clear i;go_enter func174,ntmps174;go_wp2;go_ret;exact⟨rfl,0,rfl⟩
open Classical in
theorem sameC {r:World} {b a:Int} {g h:Option Addr} {c1 c2:Nat} (t:NumR r b g c1) (z:Ja b.natAbs<=10000000) (u:NumR r a h c2) (A:Ja a.natAbs<=10000000) :
  Cl 114 #[numC b g c1,numC a h c2] r λe k=>e=.returned (.bool (decide (b=a)))/\Bl r k:=by
 have s:=qh (λ(k:World) (q:Bl r k)=>ja4 g h _ _ c1 c2 _ _ k (t.rd.below q) (u.rd.below q) Zo Zo)
 have l:=qh (show(decide (b<0)==decide (a<0)&&decide (Ja b.natAbs=Ja a.natAbs/\∀ j,j<Ja b.natAbs->dgi b.natAbs j=dgi a.natAbs j))=decide (b=a) by
  by_cases q:b=a
  ·subst q;simp
  ·rw[zo q];by_cases c:decide (b<0)=decide (a<0)
   ·rw[c,beq_self_eq_true,Bool.true_and]
    refine zo λi=>q ?_
    have v:=Jl b;have w:=Jl a;rw[<- v,<- w,c,i.1];unfold Jp
    have e:Jj (dgi b.natAbs) (Ja a.natAbs)=Jj (dgi a.natAbs) (Ja a.natAbs):=Qb λj x=>i.2 j (by rw[i.1];exact x)
    have y:okN (decide (a<0)) (Ja a.natAbs) (dgi b.natAbs):=by have:=JY b;rw[c,i.1] at this;exact this
    rw[if_pos y,if_pos (JY a),e]
   ·have:(decide (b<0)==decide (a<0))=false:=by simpa using c
    rw[this,Bool.false_and])
 obtain⟨o,d⟩:=gn (decide (b<0));obtain⟨p,f⟩:=gn (decide (a<0));obtain⟨D,n⟩:=gn (decide (Ja b.natAbs=Ja a.natAbs/\∀ j,j<Ja b.natAbs->dgi b.natAbs j=dgi a.natAbs j));rw[<- d,<- f,<- n] at l;rw[<- n] at s;show Cl 114 #[Jv (decide (b<0)) g (Ja b.natAbs) c1,Jv (decide (a<0)) h (Ja a.natAbs) c2] r _;rw[<- d,<- f,<- l.o];clear t u d f n l
 generalize Ja b.natAbs=n1 at *
 generalize Ja a.natAbs=n2 at *
 by_cases c:o=p
 ·have m:(o==p)=true:=by simpa using c
  rw[m,Bool.true_and];go_enter func114,ntmps114;go_wp2_with fail
  refine(s.o _ ?_).mono ?_
  ·exact qg
  rintro e B ⟨rfl,C,rfl⟩;go_wp2;go_ret;exact⟨rfl,qg⟩
 ·have m:(o==p)=false:=by simpa using c
  rw[m,Bool.false_and];go_enter func114,ntmps114;go_wp2;go_ret;exact⟨rfl,qg⟩
open Go.FreshH
structure NumA (w:World) (s:Bool) (a:Option Addr) (n c:Nat) (z:Int):Prop where
 ex:∃ o,Rd w a n o/\Jp s n o=z
 le:n<=c
structure NumO (w:World) (b:Nat) (z:Int) (a:Option Addr) (c:Nat):Prop where
 own:Own 128 w b a (Ja z.natAbs) c (dgi z.natAbs)
theorem NumO.r {f:World} {b:Nat} {z:Int} {a:Option Addr} {c:Nat} (d:NumO f b z a c):NumR f z a c:=⟨d.own.rd,d.own.le⟩
theorem lenZ_val (b:Bool) (n:Nat) (o:Nat->Int) (h:∀ c,c<n->0<=o c/\o c<=4294967295):Ja (Jp b n o).natAbs<=n:=by
 by_cases a:okN b n o
 ·obtain⟨d,f,g⟩:=QD b n o a h;omega
 ·rw[show Jp b n o=0 by unfold Jp;rw[if_neg a]];simp[Jw]
theorem NumA.len {g:World} {c:Bool} {a:Option Addr} {n d:Nat} {z:Int} (f:NumA g c a n d z):Ja z.natAbs<=n:=by
 obtain⟨o,b,rfl⟩:=f.ex;exact lenZ_val c n o b.rng
theorem len1 {z:Int} (a:-9223372036854775808<=z) (b:z<=9223372036854775807):Ja z.natAbs<=3:=len3 Zo
end Limb
namespace Limb
open Go.RowKit Go.Sort
variable {w w':World} {p q x y:Rat} {c c1 c2 g lo lo' m n n1 n2:Nat} {z:Int} {l:List Value} {T t:TypeId} {a a1 a2:Option Addr} {o o1 o2:Nat->Int}
structure NV where
 s:Bool
 a:Option Addr
 n:Nat
 c:Nat
abbrev NV.v (x:NV):Value:=.agg #[.bool x.s,.slice x.a x.n x.c]
theorem NV.inj {b d:NV} (f:b.v=d.v):b=d:=by
 cases b;cases d
 simp only[Value.agg.injEq,Array.mk.injEq,List.cons.injEq,Value.bool.injEq,Value.slice.injEq,and_true] at f;obtain⟨rfl,rfl,rfl,rfl⟩:=f;rfl
abbrev AN (w:World) (x:NV) (z:Int):Prop:=NumA w x.s x.a x.n x.c z
structure KN (w:World) (x:NV) (z:Int):Prop where
 s:x.s=decide (z<0)
 n:x.n=Ja z.natAbs
 rd:Rd w x.a x.n (dgi z.natAbs)
 le:x.n<=x.c
structure DN (w:World) (lo:Nat) (x:NV) (z:Int):Prop where
 s:x.s=decide (z<0)
 n:x.n=Ja z.natAbs
 own:Own 128 w lo x.a x.n x.c (dgi z.natAbs)
theorem KN.below {f:NV} (b:KN w f z) (d:Bl w w'):KN w' f z:=⟨b.s,b.n,b.rd.below d,b.le⟩
theorem DN.below {f:NV} (b:DN w lo f z) (d:Bl w w'):DN w' lo f z:=⟨b.s,b.n,b.own.below d⟩
theorem DN.mono {f:NV} (b:DN w lo f z) (d:lo'<=lo):DN w lo' f z:=⟨b.s,b.n,b.own.mono d⟩
theorem DN.k {d:NV} (b:DN w lo d z):KN w d z:=⟨b.s,b.n,b.own.rd,b.own.le⟩
theorem KN.r {b:NV} (d:KN w b z):b.v=numC z b.a b.c/\NumR w z b.a b.c:=by
 refine⟨?_,⟨by rw[<- d.n];exact d.rd,by rw[<- d.n];exact d.le⟩⟩;show Value.agg #[.bool b.s,.slice b.a b.n b.c]=_;rw[d.s,d.n]
theorem KN.len {b:NV} {k:Nat} (d:KN w b z) (h:Ja z.natAbs<=k) (f:k<=m):b.n<=m:=by rw[d.n];omega
theorem KN.raw {b:Bool} (k:Rd w a n o) (i:n<=c) (j:okN b n o):KN w ⟨b,a,n,c⟩ (Jp b n o):=by
 obtain⟨d,f,h⟩:=QD b n o j k.rng;exact⟨d.symm,f.symm,k.congr h,i⟩
theorem KN.zero (b:World) (a:Option Addr) (d:Nat):KN b ⟨false,a,0,d⟩ 0:=by
 refine⟨rfl,?_,Rd.nil b a _,Nat.zero_le _⟩;exact Jw.symm
def RNN (w:World) (q r c:Int) (e:Ending) (w':World):Prop:=∃ x y:NV,e=.returned (.tuple #[x.v,y.v,.int .i64 c])/\DN w' w.heap.size x q/\DN w' w.heap.size y r/\Bl w w'
theorem RNN.zero {h:Int} {e:Ending} (d:e=.returned (.tuple #[Jv false none 0 0,Jv false none 0 0,.int .i64 h])/\Bl w w'):RNN w 0 0 h e w':=by
 obtain⟨rfl,f⟩:=d;have b:DN w' w.heap.size ⟨false,none,0,0⟩ 0:=⟨rfl,Jw.symm,⟨zj,Or.inl ⟨rfl,rfl,rfl⟩,λi d=>absurd d (Nat.not_lt_zero i)⟩⟩;exact⟨_,_,rfl,b,b,f⟩
open Classical in
theorem sameN {k r:NV} {s u:Int} (b:KN w k s) (i:k.n<=10000000) (d:KN w r u) (j:r.n<=10000000):Cl 114 #[k.v,r.v] w λe w'=>e=.returned (.bool (decide (s=u)))/\Bl w w':=by
 have f:=b.r;have h:=d.r;rw[f.1,h.1];exact sameC f.2 (by rw[<- b.n];exact i) h.2 (by rw[<- d.n];exact j)
theorem sameTN {i j:NV} {r s:Int} (f:KN w i r) (b:i.n<=10000000) (h:KN w j s) (d:j.n<=10000000) (e:r=s):Cl 114 #[i.v,j.v] w λe w'=>e=.returned (.bool true)/\Bl w w':=by
 have k:=sameN f b h d;rw[decide_eq_true e] at k;exact k
def NV.blk (x:NV) (b:Nat):Prop:=∃ p:Addr,x.a=some p/\p.block=b
theorem Own.kept (h:Own 128 w lo a n c o) (j:∀ b,(∃ p:Addr,a=some p/\p.block=b)->w'.heap[b]?=w.heap[b]?):Own 128 w' lo a n c o :=
 ⟨h.le,h.place.imp id λ⟨g,d,f,hg,i,k⟩=>⟨g,d,f,hg,(j g ⟨_,f,rfl⟩).trans i,k⟩,h.rng⟩
theorem DN.kept {h:NV} (d:DN w lo h z) (f:∀ b,h.blk b->w'.heap[b]?=w.heap[b]?):DN w' lo h z:=⟨d.s,d.n,d.own.kept f⟩
theorem DN.QV {h:NV} (i:DN w lo h z):∀ b,h.blk b->lo<=b/\b<w.heap.size:=λb ⟨p,f,e⟩=>by
 have d:=i.own.blk f;rw[<- e];exact d.2
structure NV2 where
 p:NV
 q:NV
abbrev NV2.v (c:Int) (x:NV2):Value:=.tuple #[x.p.v,x.q.v,.int .i64 c]
def NV2.blk (x:NV2) (b:Nat):Prop:=x.p.blk b\/x.q.blk b
theorem NV2.inj (j:Int) (h i:NV2) (f:h.v j=i.v j):h=i:=by
 simp only[Value.tuple.injEq,Array.mk.injEq,List.cons.injEq,and_true] at f
 cases h;cases i
 have b:=NV.inj f.1;have d:=NV.inj f.2;dsimp only at b d;rw[b,d]
theorem shp4 (h:FS.Shp w g T 4):∃ x y z f,Bxs w g T [x,y,z,f]:=by
 obtain⟨c,b,d⟩:=h;obtain⟨l⟩:=c
 match l,d with
 | [x,y,z,f],_=>exact⟨x,y,z,f,b⟩
theorem Z8 {h:Nat} (f:Bxs w g T l) (v:Value):FS.Shaped w (w.setCell ⟨g,h,none⟩ v):=by
 refine⟨by simp[World.setCell],λk c i b=>?_⟩;by_cases e:k=g
 ·subst e;have d:w.heap[k]?=some (.cells l.toArray T (0,0)):=f;rw[d] at b
  cases b
  exact⟨_,f.put h v,by simp⟩
 ·exact⟨c,(Below.heap_setCell _ _ _ _ e).trans b,rfl⟩
theorem Shaped.trans {a b j:World} (r:FS.Shaped a b) (k:FS.Shaped b j):FS.Shaped a j:=by
 refine⟨zm r.size k.size,λs x T d=>?_⟩;obtain⟨y,h,e⟩:=r.shape s x T d;obtain⟨z,i,f⟩:=k.shape s y T h;exact⟨z,i,f.trans e⟩
theorem jd9 {b:Nat} (d:¬FS.Ue (.pointer (some ⟨g,0,none⟩)) b):b≠g:=λe=>d (by rw[e];rfl)
theorem ja5 {A:World} {r:Nat} {B C z u:Value} (s:Below r A w) (h:r<=g) (k:Bxs w g T [B,C,z,u]) (d v f j:Value) :
  (Below r A ((((w.setCell ⟨g,0,none⟩ d).setCell ⟨g,1,none⟩ v).setCell ⟨g,2,none⟩ f).setCell ⟨g,3,none⟩ j)/\FS.Shaped w ((((w.setCell ⟨g,0,none⟩ d).setCell ⟨g,1,none⟩ v).setCell ⟨g,2,none⟩ f).setCell ⟨g,3,none⟩ j)/\((((w.setCell ⟨g,0,none⟩ d).setCell ⟨g,1,none⟩ v).setCell ⟨g,2,none⟩ f).setCell ⟨g,3,none⟩ j).heap.size=w.heap.size/\∀ b,¬FS.Ue (.pointer (some ⟨g,0,none⟩)) b->((((w.setCell ⟨g,0,none⟩ d).setCell ⟨g,1,none⟩ v).setCell ⟨g,2,none⟩ f).setCell ⟨g,3,none⟩ j).heap[b]?=w.heap[b]?)/\FS.V3 ((((w.setCell ⟨g,0,none⟩ d).setCell ⟨g,1,none⟩ v).setCell ⟨g,2,none⟩ f).setCell ⟨g,3,none⟩ j) T (.pointer (some ⟨g,0,none⟩)) (.agg #[d,v,f,j]) :=
 ⟨⟨(((s.setCell h d).setCell h v).setCell h f).setCell h j,Shaped.trans (Shaped.trans (Shaped.trans (Z8 k d) (Z8 (k.put 0 d) v)) (Z8 ((k.put 0 d).put 1 v) f)) (Z8 (((k.put 0 d).put 1 v).put 2 f) j),by simp[World.setCell],λb i=>(((Below.heap_setCell _ _ _ _ (jd9 i)).trans (Below.heap_setCell _ _ _ _ (jd9 i))).trans (Below.heap_setCell _ _ _ _ (jd9 i))).trans (Below.heap_setCell _ _ _ _ (jd9 i))⟩,⟨g,rfl,(((k.put 0 d).put 1 v).put 2 f).put 3 j⟩⟩
theorem X0 {d:List Value} (b:FS.V3 w T (.pointer (some ⟨g,0,none⟩)) (.agg d.toArray)):Bxs w g T d:=by
 obtain⟨f,e,b⟩:=b
 cases e
 exact b
theorem Own.Jt (h:Own 128 w lo a n c o) (j:Bxs w g t l) (r:128≠t) (s:Nat) (v:Value):Own 128 (w.setCell ⟨g,s,none⟩ v) lo a n c o:=by
 refine⟨h.le,h.place.imp id λ⟨p,d,i,hg,f,k⟩=>⟨p,d,i,hg,?_,k⟩,h.rng⟩;rw[Below.heap_setCell _ _ _ _ ?_]
 ·exact f
 ·intro e;have e:p=g:=e;subst e;have b:w.heap[p]?=some (.cells l.toArray t (0,0)):=j;rw[f] at b
  cases b
  exact r rfl
def Zp:Value->Bool
 | .int _ _=>false
 | _=>true
theorem Rd.Jt (C:Rd w a n o) (u:Bxs w g t l) (A:l.all Zp=true) (D:Nat) (v:Value):Rd (w.setCell ⟨g,D,none⟩ v) a n o:=by
 refine⟨λB=>?_,C.rng⟩;obtain⟨b,off,e,i⟩:=C.cells B;refine⟨b,off,e,λk j=>?_⟩
 have h:b≠g:=λd=>by
  subst d;have f:=i k j;rw[cell_of_row _ _ _ _ _ _ u] at f
  have r:uc o k∈l:=by
   have:l.toArray[off+k]?=some (uc o k):=f;rw[List.getElem?_toArray] at this;exact List.mem_of_getElem? this
  have s:=List.all_eq_true.1 A _ r;simp[Zp] at s
 rw[<- i k j];simp only[World.cell?];rw[Below.heap_setCell _ _ _ _ (λd=>h d)]
theorem KN.Jt {i:NV} (b:KN w i z) (d:Bxs w g t l) (f:l.all Zp=true) (h:Nat) (v:Value):KN (w.setCell ⟨g,h,none⟩ v) i z:=⟨b.s,b.n,b.rd.Jt d f h v,b.le⟩
theorem DN.Jt {i:NV} (b:DN w lo i z) (d:Bxs w g t l) (f:128≠t) (h:Nat) (v:Value):DN (w.setCell ⟨g,h,none⟩ v) lo i z:=⟨b.s,b.n,b.own.Jt d f h v⟩
structure FV where
 t:NV
 l:NV
abbrev FV.v (x:FV):Value:=.agg #[.bool x.t.s,.slice x.t.a x.t.n x.t.c,.bool x.l.s,.slice x.l.a x.l.n x.l.c]
abbrev cFv (x:FV):List Value:=[.bool x.t.s,.slice x.t.a x.t.n x.t.c,.bool x.l.s,.slice x.l.a x.l.n x.l.c]
abbrev cTv (x:FV) (m:Pol.Mo):List Value:=[.bool x.t.s,.slice x.t.a x.t.n x.t.c,.bool x.l.s,.slice x.l.a x.l.n x.l.c,.int .u16 m.x,.int .u16 m.y,.int .u16 m.z,.int .u16 m.t]
theorem FV.inj {d h:FV} (i:d.v=h.v):d=h:=by
 obtain⟨⟨a,b,c,C⟩,⟨e,f,g,D⟩⟩:=d;obtain⟨⟨j,k,r,s⟩,⟨u,v,A,B⟩⟩:=h;simp only[Value.agg.injEq,Array.mk.injEq,List.cons.injEq,Value.bool.injEq,Value.slice.injEq,and_true] at i;obtain⟨rfl,⟨rfl,rfl,rfl⟩,rfl,rfl,rfl,rfl⟩:=i;rfl
structure AF (w:World) (x:FV) (q:Rat):Prop where
 ex:∃ o1 o2,Rd w x.t.a x.t.n o1/\Rd w x.l.a x.l.n o2/\Xv x.t.s x.t.n o1 x.l.s x.l.n o2=q
 l1:x.t.n<=x.t.c
 l2:x.l.n<=x.l.c
structure KF (w:World) (x:FV) (q:Rat):Prop where
 t:KN w x.t q.num
 l:KN w x.l (q.den:Int)
structure DF (w:World) (lo:Nat) (x:FV) (q:Rat):Prop where
 t:DN w lo x.t q.num
 l:DN w lo x.l (q.den:Int)
 ap:XA x.t.a x.l.a
structure BF (w:World) (x:FV):Prop where
 ex:∃ o1 o2,Rd w x.t.a x.t.n o1/\Rd w x.l.a x.l.n o2/\¬okF x.t.s x.t.n o1 x.l.s x.l.n o2
 l1:x.t.n<=x.t.c
 l2:x.l.n<=x.l.c
abbrev LF (x:FV) (k:Nat):Prop:=x.t.n<=k/\x.l.n<=k
structure LQ (q:Rat) (k:Nat):Prop where
 t:Ja q.num.natAbs<=k
 l:Ja (q.den:Int).natAbs<=k
theorem AF.below {j:FV} (d:AF w j q) (b:Bl w w'):AF w' j q:=by
 obtain⟨o1,o2,f,h,i⟩:=d.ex;exact⟨⟨o1,o2,f.below b,h.below b,i⟩,d.l1,d.l2⟩
theorem KF.below {f:FV} (d:KF w f q) (b:Bl w w'):KF w' f q:=⟨d.t.below b,d.l.below b⟩
theorem DF.below {f:FV} (d:DF w lo f q) (b:Bl w w'):DF w' lo f q:=⟨d.t.below b,d.l.below b,d.ap⟩
theorem BF.below {j:FV} (d:BF w j) (b:Bl w w'):BF w' j:=by
 obtain⟨o1,o2,f,h,i⟩:=d.ex;exact⟨⟨o1,o2,f.below b,h.below b,i⟩,d.l1,d.l2⟩
theorem DF.mono {f:FV} (d:DF w lo f q) (b:lo'<=lo):DF w lo' f q:=⟨d.t.mono b,d.l.mono b,d.ap⟩
theorem DF.k {d:FV} (b:DF w lo d q):KF w d q:=⟨b.t.k,b.l.k⟩
theorem DF.Jt {i:FV} (f:DF w lo i q) (b:Bxs w g t l) (d:128≠t) (h:Nat) (v:Value):DF (w.setCell ⟨g,h,none⟩ v) lo i q:=⟨f.t.Jt b d h v,f.l.Jt b d h v,f.ap⟩
theorem KF.Jt {i:FV} (h:KF w i q) (b:Bxs w g t l) (d:l.all Zp=true) (f:Nat) (v:Value):KF (w.setCell ⟨g,f,none⟩ v) i q:=⟨h.t.Jt b d f v,h.l.Jt b d f v⟩
theorem KF.any {d:FV} (b:KF w d q):AF w d q:=by
 refine⟨⟨_,_,b.t.rd,b.l.rd,?_⟩,b.t.le,b.l.le⟩;rw[b.t.s,b.t.n,b.l.s,b.l.n];exact XC q
theorem KF.len {h:FV} {k:Nat} (f:KF w h q) (d:LQ q k) (b:k<=m):LF h m:=⟨f.t.len d.t b,f.l.len d.l b⟩
theorem LQ.up {k:Nat} (d:LQ q k) (b:k<=m):LQ q m:=⟨zm d.t b,zm d.l b⟩
theorem LF.up {f:FV} {k:Nat} (d:LF f k) (b:k<=m):LF f m:=⟨zm d.1 b,zm d.2 b⟩
theorem LQ.add {k:Nat} (b:LQ x k) (d:LQ y k) (f:2*k+1<=m):LQ (x+y) m:=by
 have h:=add_len b.t b.l d.t d.l;exact⟨Zo,Zo⟩
theorem LQ.mul {k:Nat} (b:LQ x k) (d:LQ y k) (f:2*k<=m):LQ (x*y) m:=by
 have h:=mul_len b.t b.l d.t d.l;exact⟨Zo,Zo⟩
theorem LQ.div {k:Nat} (f:y≠0) (b:LQ x k) (d:LQ y k) (h:2*k<=m):LQ (x/y) m:=by
 have i:=div_len f b.t b.l d.t d.l;exact⟨Zo,Zo⟩
theorem LQ.neg {k:Nat} (b:LQ x k):LQ (-x) k:=⟨by rw[Rat.neg_num,Int.natAbs_neg];exact b.t,by rw[Rat.neg_den];exact b.l⟩
theorem LQ.int {n:Int} (b:-9223372036854775808<=n) (d:n<=9223372036854775807):LQ (n:Rat) 3:=⟨by rw[Rat.num_intCast];exact len1 b d,by rw[Rat.den_intCast];exact len1 Ze Ze⟩
theorem KF.raw {d:Bool} {f:Bool} (r:Rd w a1 n1 o1) (h:n1<=c1) (s:Rd w a2 n2 o2) (i:n2<=c2) (b:okF d n1 o1 f n2 o2):KF w ⟨⟨d,a1,n1,c1⟩,⟨f,a2,n2,c2⟩⟩ (Xv d n1 o1 f n2 o2):=by
 obtain⟨j,k⟩:=XY b;refine⟨?_,?_⟩
 ·rw[j];exact KN.raw r h b.1
 ·rw[k];exact KN.raw s i b.2.1
theorem BF.raw {f:Bool} {h:Bool} (i:Rd w a1 n1 o1) (b:n1<=c1) (j:Rd w a2 n2 o2) (d:n2<=c2) (k:¬okF f n1 o1 h n2 o2):BF w ⟨⟨f,a1,n1,c1⟩,⟨h,a2,n2,c2⟩⟩:=⟨⟨o1,o2,i,j,k⟩,b,d⟩
theorem AF.len {b:FV} {k:Nat} (j:AF w b q) (r:LF b k):LQ q (k+1):=by
 obtain⟨o1,o2,d,f,h⟩:=j.ex;have i:=JV (s1:=b.t.s) (s2:=b.l.s) d.rng f.rng;rw[h] at i;exact⟨Zo,Zo⟩
def RF (w:World) (q:Rat) (e:Ending) (w':World):Prop:=∃ x:FV,e=.returned x.v/\DF w' w.heap.size x q/\Bl w w'
theorem Ki.rf {e:Ending} (h:Ki w q.num (q.den:Int) e w'):RF w q e w':=by
 obtain⟨a1,a2,rfl,b,d,ap,f⟩:=h;exact⟨⟨⟨_,a1,_,_⟩,⟨_,a2,_,_⟩⟩,rfl,⟨⟨rfl,rfl,b⟩,⟨rfl,rfl,d⟩,ap⟩,f⟩
def RFE (w:World) (q:Rat) (c:Int) (e:Ending) (w':World):Prop:=∃ x:FV,e=.returned (.tuple #[x.v,.int .i64 c])/\DF w' w.heap.size x q/\Bl w w'
theorem jbf.rfe {e:Ending} (h:jbf w 0 q.num (q.den:Int) e w'):RFE w q 0 e w':=by
 obtain⟨a1,a2,rfl,b,d,ap,f⟩:=h;exact⟨⟨⟨_,a1,_,_⟩,⟨_,a2,_,_⟩⟩,rfl,⟨⟨rfl,rfl,b⟩,⟨rfl,rfl,d⟩,ap⟩,f⟩
theorem qadd {b d:FV} (f:AF w b p) (B:LF b 900000) (h:AF w d q) (C:LF d 900000):Cl 109 #[b.v,d.v] w (RF w (p+q)):=by
 obtain⟨o1,o2,s,u,i⟩:=f.ex;obtain⟨k,r,v,A,j⟩:=h.ex
 exact(fadd_any b.t.s b.t.a b.t.n b.t.c o1 b.l.s b.l.a b.l.n b.l.c o2 d.t.s d.t.a d.t.n d.t.c k d.l.s d.l.a d.l.n d.l.c r w p q i.symm j.symm s Zo f.l1 u Zo f.l2 v Zo h.l1 A Zo h.l2).mono λ_ _ D=>Ki.rf D
theorem qmul {b d:FV} (f:AF w b p) (B:LF b 900000) (h:AF w d q) (C:LF d 900000):Cl 34 #[b.v,d.v] w (RF w (p*q)):=by
 obtain⟨o1,o2,s,u,i⟩:=f.ex;obtain⟨k,r,v,A,j⟩:=h.ex
 exact(fmul_any b.t.s b.t.a b.t.n b.t.c o1 b.l.s b.l.a b.l.n b.l.c o2 d.t.s d.t.a d.t.n d.t.c k d.l.s d.l.a d.l.n d.l.c r w p q i.symm j.symm s Zo f.l1 u Zo f.l2 v Zo h.l1 A Zo h.l2).mono λ_ _ D=>Ki.rf D
theorem qof (n:Int) (f:World) (b:-9223372036854775808<=n) (d:n<=9223372036854775807):Cl 35 #[.int .i64 n] f (RF f (n:Rat)) :=
 (ji1 n f b d).mono λ_ _ h=>Ki.rf (by rw[Rat.num_intCast,Rat.den_intCast];exact h)
theorem jhj {b:FV} (d:AF w b p) (j:LF b 900000):Cl 110 #[b.v] w λe w'=>e=.returned (.int .i64 (Js p.num 0))/\Bl w w':=by
 obtain⟨o1,o2,h,i,f⟩:=d.ex;exact jkc b.t.s b.t.a b.t.n b.t.c o1 b.l.s b.l.a b.l.n b.l.c o2 w p f.symm h Zo d.l1 i Zo d.l2
open Classical in
theorem jea {d:FV} (b:KF w d p) (h:LF d 900000):Cl 142 #[d.v] w λe w'=>e=.returned (.bool true)/\Bl w w':=by
 have f:=XB d.t.s d.t.a d.t.n d.t.c _ d.l.s d.l.a d.l.n d.l.c _ w b.t.rd Zo b.t.le b.l.rd Zo b.l.le;rw[decide_eq_true (by rw[b.t.s,b.t.n,b.l.s,b.l.n];exact XT p)] at f;exact f
open Classical in
theorem qcheckB {b:FV} (d:BF w b) (k:LF b 900000):Cl 142 #[b.v] w λe w'=>e=.returned (.bool false)/\Bl w w':=by
 obtain⟨o1,o2,h,i,f⟩:=d.ex;have j:=XB b.t.s b.t.a b.t.n b.t.c o1 b.l.s b.l.a b.l.n b.l.c o2 w h Zo d.l1 i Zo d.l2;rw[zo f] at j;exact j
theorem KF.okv {b:FV} (d:KF w b p):okF b.t.s b.t.n (dgi p.num.natAbs) b.l.s b.l.n (dgi (p.den:Int).natAbs):=by
 rw[d.t.s,d.t.n,d.l.s,d.l.n];exact XT p
theorem KF.valv {b:FV} (d:KF w b p):p=Xv b.t.s b.t.n (dgi p.num.natAbs) b.l.s b.l.n (dgi (p.den:Int).natAbs):=by
 rw[d.t.s,d.t.n,d.l.s,d.l.n];exact(XC p).symm
theorem qdiv {f h:FV} (b:KF w f p) (k:LF f 900000) (d:KF w h q) (r:LF h 900000) (i:q≠0):Cl 145 #[f.v,h.v] w (RFE w (p/q) 0):=by
 have j:=fdiv_ok f.t.s f.t.a f.t.n f.t.c _ f.l.s f.l.a f.l.n f.l.c _ h.t.s h.t.a h.t.n h.t.c _ h.l.s h.l.a h.l.n h.l.c _ w b.t.rd Zo b.t.le b.l.rd Zo b.l.le d.t.rd Zo d.t.le d.l.rd Zo d.l.le b.okv d.okv p q b.valv d.valv;rw[if_neg i,if_neg i] at j
 exact j.mono λ_ _ j=>jbf.rfe j
def FV.blk (x:FV) (b:Nat):Prop:=x.t.blk b\/x.l.blk b
theorem DF.kept {i:FV} (h:DF w lo i q) (f:∀ b,i.blk b->w'.heap[b]?=w.heap[b]?):DF w' lo i q:=⟨h.t.kept λb d=>f b (Or.inl d),h.l.kept λb d=>f b (Or.inr d),h.ap⟩
theorem DF.QV {h:FV} (f:DF w lo h q):∀ b,h.blk b->lo<=b/\b<w.heap.size:=λb d=>d.elim (f.t.QV b) (f.l.QV b)
theorem FV.injE (b:Int) (f h:FV) (d:Value.tuple #[f.v,.int .i64 b]=.tuple #[h.v,.int .i64 b]):f=h:=by
 simp only[Value.tuple.injEq,Array.mk.injEq,List.cons.injEq,and_true] at d;exact FV.inj d
end Limb
namespace Limb
variable {a b c d i j k:Nat} {q x y:Rat}
structure LS (q:Rat) (a b:Nat):Prop where
 t:Ja q.num.natAbs<=a
 l:Ja (q.den:Int).natAbs<=b
theorem LS.up (r:LS q a b) (f:a<=c) (h:b<=d):LS q c d:=⟨zm r.t f,zm r.l h⟩
theorem LS.lq (r:LS q a b) (f:a<=k) (h:b<=k):LQ q k:=⟨zm r.t f,zm r.l h⟩
theorem LQ.ls (f:LQ q k):LS q k k:=⟨f.t,f.l⟩
theorem LS.add (f:LS x a b) (h:LS y c d) {A v:Nat} (D:a+d+1<=A) (E:c+b+1<=A) (J:b+d<=v):LS (x+y) A v:=by
 rw[<- UG x y];have B:=Xd (x.num*(y.den:Int)+y.num*(x.den:Int)) ((x.den:Int)*(y.den:Int)) (Int.ne_of_gt (Int.mul_pos (QE x) (QE y)));have r:=Jo x.num.natAbs (y.den:Int).natAbs;have s:=Jo y.num.natAbs (x.den:Int).natAbs;have u:=Jo (x.den:Int).natAbs (y.den:Int).natAbs;rw[<- Int.natAbs_mul] at r s u;have F:=f.t;have G:=f.l;have H:=h.t;have I:=h.l;have C:=Y0 (x.num*(y.den:Int)) (y.num*(x.den:Int));exact⟨zm B.1 Zo,zm B.2 Zo⟩
theorem LS.mul (f:LS x a b) (h:LS y c d):LS (x*y) (a+c) (b+d):=by
 have e:Rat.divInt (x.num*y.num) ((x.den:Int)*(y.den:Int))=x*y:=by rw[Rat.mul_def',<- Rat.divInt_ofNat,Int.natCast_mul]
 rw[<- e];have u:=Xd (x.num*y.num) ((x.den:Int)*(y.den:Int)) (Int.ne_of_gt (Int.mul_pos (QE x) (QE y)));have r:=Jo x.num.natAbs y.num.natAbs;have s:=Jo (x.den:Int).natAbs (y.den:Int).natAbs;rw[<- Int.natAbs_mul] at r s;have v:=f.t;have A:=f.l;have B:=h.t;have C:=h.l;exact⟨zm u.1 Zo,zm u.2 Zo⟩
theorem LS.zero:LS 0 0 1:=⟨by decide +kernel,by decide +kernel⟩
structure NQ (q:Rat) (j k:Nat):Prop where
 ls:LS q (j*(k+1)) (j*k)
theorem NQ.one (f:LQ q k):NQ q 1 k:=⟨⟨by have:=f.t;omega,by have:=f.l;omega⟩⟩
theorem NQ.add (f:NQ x i k) (h:NQ y j k) (r:0<i) (s:0<j):NQ (x+y) (i+j) k:=by
 refine⟨f.ls.add h.ls ?_ ?_ ?_⟩
 ·rw[Nat.add_mul,Nat.mul_add j k 1];omega
 ·rw[Nat.add_mul,Nat.mul_add i k 1];omega
 ·rw[Nat.add_mul];omega
theorem NQ.lq {h:Nat} (r:NQ x j k) (f:j*(k+1)<=h):LQ x h:=r.ls.lq f (by rw[Nat.mul_add] at f;omega)
theorem NQ.up (h:NQ x i k) (f:i<=j):NQ x j k:=⟨h.ls.up (Nat.mul_le_mul_right _ f) (Nat.mul_le_mul_right _ f)⟩
open Go.RowKit Go.Sort
theorem jf1 {s:World} {a:Option Addr} {n:Nat} {o:Nat->Int} (u:Rd s a n o) (f:0<n):∀ p,a=some p->p.block<s.heap.size:=λp h=>by
 obtain⟨b,off,e,r⟩:=u.cells f;rw[e] at h
 cases h
 exact block_lt_of_cell (r 0 f)
theorem KF.lq {r:World} {h:FV} (f:KF r h q) (b:LF h k):LQ q k:=⟨by rw[<- f.t.n];exact b.1,by rw[<- f.l.n];exact b.2⟩
theorem qsameFr {Q:World} {K L:FV} {p1 p2:Rat} (V:KF Q K p1) (Y:LF K 900000) (W:KF Q L p2) (Z:LF L 900000) (e:p1=p2):Cl 41 #[K.v,L.v] Q λe w'=>e=.returned (.bool true)/\Bl Q w':=by
 have f:=qh<|Below.refl Q.heap.size Q;have R:=qh V;have S:=qh W;have N:=qh<|V.lq Y;have O:=qh<|W.lq Z;have X:=qh e;clear V W Y Z e;go_enter func41,ntmps41
 go_upto_region 1 with (fail)
 obtain⟨v3,P⟩:=gn ((Q.alloc (.cells (cFv K).toArray 32)).alloc (.cells (cFv L).toArray 32));have U:=bq P ((zk.alloc zj _).alloc (by go_size) _);have H:=qh (show Bxs v3 (Q.heap.size) 32 (cFv K) by have aa:=(Bxs.new (Q) 32 (cFv K)).alloc (.cells (cFv L).toArray 32);rw[P];exact aa);have I:=qh (show Bxs v3 (Q.heap.size+1) 32 (cFv L) by have aa:=Bxs.new (Q.alloc (.cells (cFv K).toArray 32)) 32 (cFv L);simp only[World.size_alloc] at aa;rw[P];exact aa);rw[<- P];have f:=qk f U;clear P U;obtain⟨h,r,s,u,v,A⟩:=H.o.d4;obtain⟨B,C,D,E,F,G⟩:=I.o.d4;go_wp2_with fail
 have M:=qh<|sameTN ((R.o.below f.o)).t (((R.o.below f.o)).t.len (qh N.o.t).o Ze) ((S.o.below f.o)).t (((S.o.below f.o)).t.len (qh O.o.t).o Ze) (by rw[X.o]);with_reducible refine M.o.mono ?_
 rintro e w4 ⟨rfl,J⟩;clear M h r s u v A B C D E F G;have H:=qh<|H.o.bl J;have I:=qh<|I.o.bl J;have f:=qk f J;clear J;obtain⟨h,r,s,u,v,A⟩:=H.o.d4;obtain⟨B,C,D,E,F,G⟩:=I.o.d4;go_wp2_with fail
 have M:=qh<|sameTN ((R.o.below f.o)).l (((R.o.below f.o)).l.len (qh N.o.l).o Ze) ((S.o.below f.o)).l (((S.o.below f.o)).l.len (qh O.o.l).o Ze) (by rw[X.o]);with_reducible refine M.o.mono ?_
 rintro e w5 ⟨rfl,J⟩;clear M h r s u v A B C D E F G H I;have f:=qk f J;clear J;go_wp2;go_ret;exact⟨rfl,f.o⟩
end Limb
namespace Pol
open Limb
variable {L P Q l:List Tm} {w w':World} {d t u:Tm} {E e e1 e2 i j k1 k2 kd lo lo' n n1 n2:Nat} {K:Mo->Int}
def Mo.le (m:Mo) (e:Nat):Prop:=m.x<=e/\m.y<=e/\m.z<=e/\m.t<=e
theorem Mo.le.up {r:Mo} {h:Nat} (f:r.le h) (k:h<=e):r.le e:=⟨zm f.1 k,zm f.2.1 k,zm f.2.2.1 k,zm f.2.2.2 k⟩
theorem Mo.le.mul {B n:Mo} {A:Nat} (C:B.le A) (k:n.le e):(B.mul n).le (A+e):=by
 obtain⟨f,h,r,s⟩:=C;obtain⟨k1,k2,v,k4⟩:=k;exact⟨Nat.add_le_add f k1,Nat.add_le_add h k2,Nat.add_le_add r v,Nat.add_le_add s k4⟩
structure PB (P:List Tm) (n k e:Nat):Prop where
 len:P.length<=n
 lq:∀ t∈P,LQ t.2 k
 ex:∀ t∈P,t.1.le e
theorem PB.up {k s r h:Nat} (v:PB P n k e) (C:n<=s) (B:k<=r) (A:e<=h):PB P s r h :=
 ⟨zm v.len C,λt f=>(v.lq t f).up B,λt f=>(v.ex t f).up A⟩
theorem PB.nil (n k e:Nat):PB [] n k e:=⟨Nat.zero_le _,λ_ f=>(by cases f),λ_ f=>(by cases f)⟩
theorem PB.append {s k:Nat} (r:PB P n k e) (h:PB Q s k e):PB (P++Q) (n+s) k e :=
 ⟨by rw[List.length_append];exact Nat.add_le_add r.len h.len,λt f=>(List.mem_append.1 f).elim (r.lq t) (h.lq t),λt f=>(List.mem_append.1 f).elim (r.ex t) (h.ex t)⟩
theorem cf_nq {k:Nat} (C:Mo):∀ {L:List Tm},(∀ t∈L,LQ t.2 k)->cf L C=0\/∃ j,0<j/\j<=L.length/\NQ (cf L C) j k
 | [],_=>Or.inl rfl
 | t :: r,h=>by
  rw[Kc];have v:=h t (List.mem_cons_self ..)
  rcases cf_nq C (L:=r) (λF B=>h F (List.mem_cons_of_mem _ B)) with A | ⟨j,f,D,s⟩
  ·rw[A,Rat.add_zero];split
   ·exact Or.inr ⟨1,Zo,by rw[List.length_cons];omega,NQ.one v⟩
   ·exact Or.inl rfl
  ·split
   ·exact Or.inr ⟨1+j,Zo,by rw[List.length_cons];omega,(NQ.one v).add s Zo f⟩
   ·rw[Rat.zero_add];exact Or.inr ⟨j,f,by rw[List.length_cons];omega,s⟩
theorem UK (f:Tm):∀ l:List Tm,(ins f l).length<=l.length+1
 | []=>by unfold ins;split <;> simp
 | s :: r=>by
  unfold ins;have:=UK f r;split
  ·split <;> simp <;> omega
  ·split
   ·split <;> simp
   ·simp;omega
theorem K9:∀ l:List Tm,(nf l).length<=l.length
 | []=>zj
 | t :: l=>by
  have f:=UK t (nf l);have h:=K9 l;show(ins t (nf l)).length<=l.length+1;omega
theorem Yu (v:t∈nf L):t.2=cf L t.1/\∃ s∈L,s.1=t.1:=by
 have f:=(Qn L).Qa v;rw[jbd] at f;refine⟨f.symm,?_⟩
 refine Classical.byContradiction λh=>(Qn L).non t v ?_
 rw[<- f]
 exact XH λs r e=>h ⟨s,r,e⟩
theorem PB.nf {k:Nat} (r:PB L n k e):PB (nf L) n (n*(k+1)) e:=by
 refine⟨zm (K9 L) r.len,λt f=>?_,λt f=>?_⟩
 ·obtain⟨h,-⟩:=Yu f
  rcases cf_nq t.1 r.lq with s | ⟨j,C,v,A⟩
  ·exact absurd (h.trans s) ((Qn L).non t f)
  ·rw[h];exact A.lq (Nat.mul_le_mul_right _ (zm v r.len))
 ·obtain⟨-,D,B,e1⟩:=Yu f;rw[<- e1];exact r.ex D B
theorem jap (v:Canon P) {k:Nat} (r:∀ t∈P,LQ t.2 k) (s:Mo):cf P s=0\/LQ (cf P s) k:=by
 by_cases f:cf P s=0
 ·exact Or.inl f
 ·obtain⟨c,h⟩:=Canon.Yj f;have:=v.Qa h;rw[this];exact Or.inr (r _ h)
theorem PB.add {k:Nat} (A:Canon P) (B:Canon Q) (r:PB P n1 k e) (s:PB Q n2 k e):PB (Qv P Q) (n1+n2) (2*k+1) e:=by
 have C:=(r.append s).nf;refine⟨C.len,λt v=>?_,C.ex⟩;obtain⟨e1,-⟩:=Yu v;rw[KH] at e1;rw[e1]
 rcases jap A r.lq t.1 with f | f <;> rcases jap B s.lq t.1 with h | h
 ·rw[f,h,Rat.zero_add] at e1;exact absurd e1 ((Qn _).non t v)
 ·rw[f,Rat.zero_add];exact h.up Zo
 ·rw[h,Rat.add_zero];exact f.up Zo
 ·exact f.add h Zo
theorem VQ (f h:List Tm):(mulL f h).length=f.length*h.length:=by
 induction f with
 | nil=>simp[mulL]
 | cons s f ih =>
  show((h.map _)++mulL f h).length=_;rw[List.length_append,ih,List.length_map,List.length_cons,Nat.add_mul];omega
theorem jaq (v:u∈mulL P Q):∃ f∈P,∃ t∈Q,u=(f.1.mul t.1,f.2*t.2):=by
 obtain⟨f,r,h⟩:=List.mem_flatMap.1 v;obtain⟨t,s,rfl⟩:=List.mem_map.1 h;exact⟨f,r,t,s,rfl⟩
theorem PB.mulL (f:PB P n1 k1 e1) (h:PB Q n2 k2 e2):PB (mulL P Q) (n1*n2) (k1+k2) (e1+e2):=by
 refine⟨by rw[VQ];exact Nat.mul_le_mul f.len h.len,λu v=>?_,λu v=>?_⟩
 ·obtain⟨A,r,t,s,rfl⟩:=jaq v;exact((f.lq A r).ls.mul (h.lq t s).ls).lq zj zj
 ·obtain⟨A,r,t,s,rfl⟩:=jaq v;exact(f.ex A r).mul (h.ex t s)
theorem PB.mul (f:PB P n1 k1 e1) (h:PB Q n2 k2 e2):PB (Ql P Q) (n1*n2) (n1*n2*(k1+k2+1)) (e1+e2):=(PB.mulL f h).nf
theorem PB.JZ {k:Nat} {v:Rat} (r:PB P n k e) (s:LQ v k2):PB (JZ v P) n (k+k2) e:=by
 refine⟨by unfold Pol.JZ;rw[List.length_map];exact r.len,λu h=>?_,λu h=>?_⟩
 ·obtain⟨t,f,rfl⟩:=List.mem_map.1 h;exact((r.lq t f).ls.mul s.ls).lq zj zj
 ·obtain⟨t,f,rfl⟩:=List.mem_map.1 h;exact r.ex t f
theorem UL (A:Canon P) {f:Rat} (r:t∈Qt f P):∃ B∈P,t=(B.1,B.2*f):=by
 obtain⟨e1,-⟩:=Yu r;have e2:cf (Pol.JZ f P) t.1=f*cf P t.1:=KJ f P _;rw[e2] at e1
 have s:cf P t.1≠0:=λC=>(Qn _).non t r (by rw[e1,C];grind)
 obtain⟨q,h⟩:=Canon.Yj s;refine⟨_,h,?_⟩;have v:cf P t.1=q:=A.Qa h;rw[v] at e1;exact Prod.ext rfl (by rw[e1];show f*q=q*f;grind)
theorem PB.scale {k:Nat} {c:Rat} (r:Canon P) (v:PB P n k e) (s:LQ c k2):PB (Qt c P) n (k+k2) e:=by
 refine⟨zm (K9 _) (v.JZ s).len,λu h=>?_,λu h=>?_⟩
 ·obtain⟨t,f,rfl⟩:=UL r h;exact((v.lq t f).ls.mul s.ls).lq zj zj
 ·obtain⟨t,f,rfl⟩:=UL r h;exact v.ex t f
structure Key (E:Nat) (K:Mo->Int):Prop where
 add:∀ a b,a.le E->b.le E->(a.mul b).le E->K (a.mul b)=K a+K b
 inj:∀ a b,a.le E->b.le E->K a=K b->a=b
def Zr (K:Mo->Int) (P:List Tm) (t:Tm):Prop:=t∈P/\∀ s∈P,K s.1<=K t.1
theorem jdp (s:Mo->Int):∀ {P:List Tm},P≠[]->∃ t,Zr s P t
 | [],B=>absurd rfl B
 | [t],_=>⟨t,List.mem_singleton.2 rfl,λA f=>by rw[List.mem_singleton.1 f];exact Int.le_refl _⟩
 | t :: u :: r,_=>by
  obtain⟨v,C,h⟩:=jdp s (P:=u :: r) (by simp);by_cases B:s v.1<=s t.1
  ·exact⟨t,List.mem_cons_self ..,λA f=>(List.mem_cons.1 f).elim (λe=>by rw[e];exact Int.le_refl _) (λf=>Int.le_trans (h A f) B)⟩
  ·exact⟨v,List.mem_cons_of_mem _ C,λA f=>(List.mem_cons.1 f).elim (λe=>by rw[e];omega) (λf=>h A f)⟩
def Mo.at (m:Mo) (i:Nat):Nat:=if i=0 then m.x else if i=1 then m.y else if i=2 then m.z else m.t
theorem at_mul (a b:Mo) (f:Nat):(a.mul b).at f=a.at f+b.at f:=by
 unfold Mo.at Mo.mul;split
 ·rfl
 split
 ·rfl
 split <;> rfl
def atM (l:Nat->Rat) (m:Mo):Rat:=l 0 ^ m.x*l 1 ^ m.y*l 2 ^ m.z*l 3 ^ m.t
theorem ji3 {k:Nat} (f:0<k):LQ 0 k:=LS.zero.lq (Nat.zero_le _) f
theorem Z9 (h:Canon P) (r:Nat):Canon (P.take r):=⟨h.falls.sublist (List.take_sublist r P),λt f=>h.non t (List.mem_of_mem_take f)⟩
theorem ji4 (v:Canon P) {k:Nat} (f:∀ t∈P,LQ t.2 k) (r:Nat) (s:Mo):cf (P.take r) s=0\/LQ (cf (P.take r) s) k:=jap (Z9 v r) (λt h=>f t (List.mem_of_mem_take h)) s
theorem add_cf (B:Canon P) (C:Canon Q) {k:Nat} (v:∀ t∈P,LQ t.2 k) (A:∀ t∈Q,LQ t.2 k) (r:Nat) (s:Mo):cf ((P++Q).take r) s=0\/LQ (cf ((P++Q).take r) s) (2*k+2):=by
 rw[List.take_append,KH]
 rcases ji4 B v r s with f | f <;> rcases ji4 C A (r-P.length) s with h | h
 ·rw[f,h];exact Or.inl (by grind)
 ·rw[f,Rat.zero_add];exact Or.inr (h.up Zo)
 ·rw[h,Rat.add_zero];exact Or.inr (f.up Zo)
 ·exact Or.inr (((NQ.one f).add (NQ.one h) Zo Zo).lq Zo)
def Kw (s:Tm) (B:List Tm):List Tm:=B.map λt=>(s.1.mul t.1,s.2*t.2)
theorem jkj (r:Tm) (h f:List Tm):mulL (r :: h) f=Kw r f++mulL h f:=rfl
theorem jkk (h:List Tm) (r:Tm) (f:List Tm):mulL (h++[r]) f=mulL h f++Kw r f:=by
 unfold mulL Kw;rw[List.flatMap_append,List.flatMap_cons,List.flatMap_nil,List.append_nil]
theorem jh4 {f:Tm} (B:LQ f.2 k1) (s:Mo):∀ {C:List Tm},Canon C->(∀ t∈C,LQ t.2 k2)->cf (Kw f C) s=0\/LQ (cf (Kw f C) s) (k1+k2)
 | [],_,_=>Or.inl rfl
 | t :: r,hB,hk=>by
  show cf ((f.1.mul t.1,f.2*t.2) :: Kw f r) s=0\/LQ (cf ((f.1.mul t.1,f.2*t.2) :: Kw f r) s) _;rw[Kc];by_cases D:f.1.mul t.1=s
  ·rw[if_pos D,XH,Rat.add_zero]
   ·exact Or.inr ((B.ls.mul (hk t (List.mem_cons_self ..)).ls).lq zj zj)
   ·intro u h e;obtain⟨v,G,rfl⟩:=List.mem_map.1 h;have F:t.1=v.1:=Mo.mul_left_cancel (D.trans e.symm);have A:=hB.head v G;rw[F] at A;exact Mo.lt_irrefl _ A
  ·rw[if_neg D,Rat.zero_add]
   exact jh4 B s hB.tail λu h=>hk u (List.mem_cons_of_mem _ h)
theorem jdq (I:Mo) {H:List Tm} (F:Canon H) (D:∀ t∈H,LQ t.2 k2):∀ {A:List Tm},(∀ t∈A,LQ t.2 k1)->cf (mulL A H) I=0\/∃ j,0<j/\j<=A.length/\NQ (cf (mulL A H) I) j (k1+k2)
 | [],_=>Or.inl rfl
 | s :: r,h=>by
  rw[jkj,KH]
  have G:=jdq I F D (A:=r) λt M=>h t (List.mem_cons_of_mem _ M)
  rcases jh4 (h s (List.mem_cons_self ..)) I F D with f | f
  ·rw[f,Rat.zero_add]
   rcases G with v | ⟨j,B,J,C⟩
   ·exact Or.inl v
   ·exact Or.inr ⟨j,B,by rw[List.length_cons];omega,C⟩
  ·rcases G with v | ⟨j,B,J,C⟩
   ·rw[v,Rat.add_zero];exact Or.inr ⟨1,Zo,by rw[List.length_cons];omega,NQ.one f⟩
   ·exact Or.inr ⟨1+j,Zo,by rw[List.length_cons];omega,(NQ.one f).add C Zo B⟩
theorem all_cf (C:Canon Q) (f:∀ t∈P,LQ t.2 k1) (h:∀ t∈Q,LQ t.2 k2) (F:Nat) (G:Mo) {H:Nat} (B:P.length*(k1+k2+1)<=H):cf (mulL (P.take F) Q) G=0\/LQ (cf (mulL (P.take F) Q) G) H:=by
 rcases jdq G C h (A:=P.take F) (λt D=>f t (List.mem_of_mem_take D)) with r | ⟨n,I,s,v⟩
 ·exact Or.inl r
 ·rw[List.length_take] at s;exact Or.inr (v.lq (zm (Nat.mul_le_mul_right _ Zo) B))
theorem PB.mulC (A:Canon Q) (h:PB P n1 k1 e1) (r:PB Q n2 k2 e2):PB (Ql P Q) (n1*n2) (n1*(k1+k2+1)) (e1+e2):=by
 have B:=PB.mul h r;refine⟨B.len,λt s=>?_,B.ex⟩;have v:=(Yu s).1;have f:=all_cf A h.lq r.lq P.length t.1 zj;rw[List.take_length,<- v] at f
 rcases f with f | f
 ·exact absurd f ((Qn _).non t s)
 ·exact f.up (Nat.mul_le_mul_right _ h.len)
theorem nodup_cf (h:(l.map Prod.fst).Nodup) (f:t∈l):cf l t.1=t.2:=by
 induction l with
 | nil=>cases f
 | cons s r ih =>
  rw[List.map_cons,List.nodup_cons] at h;rw[Kc]
  rcases List.mem_cons.1 f with rfl | f
  ·rw[if_pos rfl,XH (m:=t.1) λu v e=>h.1 (by rw[<- e];exact List.mem_map_of_mem v),Rat.add_zero]
  ·have e1:¬s.1=t.1:=λe=>h.1 (by rw[e];exact List.mem_map_of_mem f)
   rw[if_neg e1,Rat.zero_add];exact ih h.2 f
theorem jdr {C:Nat} (D:(l.map Prod.fst).Nodup) (r:∀ f,ev l f=ev L f) (A:∀ m,cf L m=0\/LQ (cf L m) C) (v:C<=900000):∀ t∈l,LQ t.2 900000:=λt B=>by
 have s:t.2=cf L t.1:=(nodup_cf D B).symm.trans (r _);rw[s]
 rcases A t.1 with h | h
 ·rw[h];exact ji3 Zo
 ·exact h.up v
def Mo.cut (m:Mo) (i:Nat):Mo:=if i=0 then { m with x:=0 } else if i=1 then { m with y:=0 } else if i=2 then { m with z:=0 } else { m with t:=0 }
theorem Canon.filter (h:Canon P) (r:Tm->Bool):Canon (P.filter r):=⟨h.falls.filter r,λt f=>h.non t (List.mem_filter.1 f).1⟩
def jhk (P:List Tm) (i j:Nat):List Tm:=(P.filter (λt=>t.1.at i==j)).map λt=>(t.1.cut i,t.2)
def Mo.stands (b a:Mo):Prop:=b.x<=a.x/\b.y<=a.y/\b.z<=a.z/\b.t<=a.t
instance (b a:Mo):Decidable (b.stands a):=by unfold Mo.stands;infer_instance
def Mo.quo (a b:Mo):Mo:=⟨a.x-b.x,a.y-b.y,a.z-b.z,a.t-b.t⟩
theorem Mo.UM {a b:Mo} (v:b.stands a):b.mul (a.quo b)=a:=by
 obtain⟨f,h,r,s⟩:=v;rw[Mo.eq_iff];exact⟨Nat.add_sub_cancel' f,Nat.add_sub_cancel' h,Nat.add_sub_cancel' r,Nat.add_sub_cancel' s⟩
theorem Mo.jeb {a b:Mo} (v:a.le e):(a.quo b).le e:=by
 obtain⟨f,h,r,s⟩:=v;exact⟨zm (Nat.sub_le _ _) f,zm (Nat.sub_le _ _) h,zm (Nat.sub_le _ _) r,zm (Nat.sub_le _ _) s⟩
abbrev Dv:=Tm × List Tm
structure DS where
 p:List Tm
 r:List Tm
 os:List (List Tm)
def byT (t d:Tm):Tm:=(t.1.quo d.1,t.2/d.2)
def VX (ds:List Dv) (m:Mo) (i:Nat) (d:Dv):Prop:=ds[i]?=some d/\d.1.1.stands m/\∀ (j:Nat) (e:Dv),j<i->ds[j]?=some e->¬e.1.1.stands m
def hitS (s:DS) (t:Tm) (i:Nat) (d:Dv):DS:=⟨VI s.p (Ql d.2 [byT t d.1]),s.r,s.os.modify i λq=>Qv q [byT t d.1]⟩
def VY (s:DS) (t:Tm):DS:=⟨VI s.p [t],Qv s.r [t],s.os⟩
inductive Step (K:Mo->Int) (ds:List Dv):DS->DS->Prop
 | hit {s:DS} {t:Tm} {i:Nat} {d:Dv} (hl:Zr K s.p t) (ht:VX ds t.1 i d):Step K ds s (hitS s t i d)
 | rest {s:DS} {t:Tm} (hl:Zr K s.p t) (ht:∀ d∈ds,¬d.1.1.stands t.1):Step K ds s (VY s t)
theorem VX.uniq {h:List Dv} {F:Mo} {v e:Dv} (A:VX h F i v) (k:VX h F j e):i=j/\v=e:=by
 obtain⟨r,B,C⟩:=A;obtain⟨k1,k2,D⟩:=k
 have s:i=j:=by
  rcases Nat.lt_trichotomy i j with f | A | f
  ·exact absurd B (D i v f r)
  ·exact A
  ·exact absurd k2 (C j e f k1)
 subst s;rw[r] at k1;exact⟨rfl,Option.some.inj k1⟩
theorem jkl (h:Tm) (f:Mo->Rat):ev [h] f=h.2*f h.1:=by rw[Jq,Xy,Rat.add_zero]
theorem QJ (h:t.2≠0):Canon [t]:=⟨List.pairwise_singleton _ _,λr f=>by rw[List.mem_singleton.1 f];exact h⟩
theorem jec (s:t.2≠0) (r:d.2≠0):(byT t d).2≠0:=λv=>by
 have h:t.2/d.2=0:=v
 have f:t.2=t.2/d.2*d.2:=by rw[Rat.div_mul_cancel r]
 rw[h,Rat.zero_mul] at f;exact s f
def evq (ds:List Dv) (os:List (List Tm)) (f:Mo->Rat):Rat:=match ds,os with
 | d :: ds,o :: os=>ev (Ql o d.2) f+evq ds os f
 | _,_=>0
theorem UO {f:Mo->Rat} (v:Tm):∀ {r:List Dv} {s:List (List Tm)} {i:Nat} {d:Dv},r[i]?=some d->s.length=r.length->evq r (s.modify i λq=>Qv q [v]) f=evq r s f+ev (Ql d.2 [v]) f
 | [],_,_,_,h,_=>by simp at h
 | _ :: _,[],_,_,_,hl=>by simp at hl
 | e :: r,o :: s,i,d,h,hl=>by
  cases i with
  | zero =>
   obtain rfl:e=d:=by simpa using h
   show ev (Ql (Qv o [v]) e.2) f+evq r s f=ev (Ql o e.2) f+evq r s f+_;rw[mulP_add,QU,jjm [v]]
   grind
  | succ i =>
   show ev (Ql o e.2) f+evq r (s.modify i _) f=ev (Ql o e.2) f+evq r s f+_;rw[UO v (by simpa using h) (by simpa using hl)];grind
structure Alls (ds:List Dv) (P:List Tm) (s:DS):Prop where
 cp:Canon s.p
 cr:Canon s.r
 co:∀ o∈s.os,Canon o
 len:s.os.length=ds.length
 sum:∀ f,ev s.p f+ev s.r f+evq ds s.os f=ev P f
theorem evq_nil (h:List Dv) (f:Mo->Rat):evq h (List.replicate h.length []) f=0:=by
 induction h with
 | nil=>rfl
 | cons d h ih =>
  rw[List.length_cons,List.replicate_succ];show ev (Ql [] d.2) f+evq h _ f=0;rw[ih];show ev [] f+0=0;rw[Xy,Rat.add_zero]
theorem Alls.start (r:Canon P) (h:List Dv):Alls h P ⟨P,[],List.replicate h.length []⟩ where
 cp:=r
 cr:=Canon.nil
 co:=λo s=>by rw[(List.mem_replicate.1 s).2];exact Canon.nil
 len:=List.length_replicate
 sum:=λf=>by rw[evq_nil,Xy];grind
theorem jhl {h:Type} {s:List h} {B:h->h} {A:h} (f:A∈s.modify i B):A∈s\/∃ y∈s,A=B y:=by
 induction s generalizing i with
 | nil=>simp at f
 | cons a r ih =>
  cases i with
  | zero =>
   rw[List.modify_zero_cons] at f
   rcases List.mem_cons.1 f with f | f
   ·exact Or.inr ⟨a,List.mem_cons_self ..,f⟩
   ·exact Or.inl (List.mem_cons_of_mem _ f)
  | succ i =>
   rw[List.modify_succ_cons] at f
   rcases List.mem_cons.1 f with f | f
   ·exact Or.inl (by rw[f];exact List.mem_cons_self ..)
   ·exact(ih f).imp (List.mem_cons_of_mem _) λ⟨y,v,e⟩=>⟨y,List.mem_cons_of_mem _ v,e⟩
theorem Alls.step {h:List Dv} {r A:DS} (s:Alls h P r) (B:Step K h r A):Alls h P A:=by
 cases B with
 | @hit t i d hl ht =>
  refine⟨QL _ _,s.cr,λo v=>?_,by show(r.os.modify i _).length=_;rw[List.length_modify];exact s.len,λf=>?_⟩
  ·rcases jhl v with v | ⟨q,_,rfl⟩
   ·exact s.co o v
   ·exact JL _ _
  ·show ev (VI r.p (Ql d.2 [byT t d.1])) f+ev r.r f+evq h (r.os.modify i _) f=_;rw[UO _ ht.1 s.len,jde,<- s.sum f]
   grind
 | @rest t hl ht =>
  refine⟨QL _ _,JL _ _,s.co,s.len,λf=>?_⟩;show ev (VI r.p [t]) f+ev (Qv r.r [t]) f+evq h r.os f=_;rw[jde,QU,<- s.sum f];grind
theorem Vd (h:t∈Qv P Q):(∃ f∈P,f.1=t.1)\/∃ f∈Q,f.1=t.1:=by
 obtain⟨_,f,r,e⟩:=Yu h;exact(List.mem_append.1 r).imp (λh=>⟨f,h,e⟩) (λh=>⟨f,h,e⟩)
theorem jkm {s:Rat} (v:t∈Qt s P):∃ r∈P,r.1=t.1:=by
 obtain⟨_,r,f,e⟩:=Yu v;obtain⟨u,h,rfl⟩:=List.mem_map.1 f;exact⟨u,h,e⟩
theorem jds (h:t∈VI P Q):(∃ f∈P,f.1=t.1)\/∃ f∈Q,f.1=t.1:=by
 rcases Vd h with h | ⟨f,r,e⟩
 ·exact Or.inl h
 ·obtain⟨u,s,e2⟩:=jkm r;exact Or.inr ⟨u,s,e2.trans e⟩
theorem UQ (v:t∈Ql P [u]):∃ s∈P,s.1.mul u.1=t.1:=by
 obtain⟨_,s,r,e⟩:=Yu v;obtain⟨a,f,b,h,rfl⟩:=jaq r;rw[List.mem_singleton.1 h] at e;exact⟨a,f,e⟩
theorem UR (f h:List Tm) (r:Mo):cf (VI f h) r=cf f r-cf h r:=jde f h _
theorem jar (v:List Tm) (r:Tm) {s n:Mo} (A:n.mul r.1=s):cf (Ql v [r]) s=cf v n*r.2:=by
 unfold cf;rw[Yk]
 have e:∀ a:Mo,ev [r] (λb=>at_ s (a.mul b))=r.2*at_ n a:=λa=>by
  rw[jkl]
  congr 1
  unfold at_;by_cases f:a=n
  ·rw[if_pos f,if_pos (by rw[f,A])]
  ·rw[if_neg f,if_neg];intro h;rw[<- A,Mo.mul_comm a,Mo.mul_comm n] at h;exact f (Mo.mul_left_cancel h)
 simp only[e];rw[jdd,Rat.mul_comm]
structure Dvs (K:Mo->Int) (ds:List Dv) (E:Nat):Prop where
 key:Key 65535 K
 can:∀ d∈ds,Canon d.2
 lead:∀ d∈ds,Zr K d.2 d.1
 ex:∀ d∈ds,∀ t∈d.2,t.1.le E
theorem Dvs.ne {f:List Dv} (s:Dvs K f E) {r:Dv} (h:r∈f):r.1.2≠0:=(s.can r h).non _ (s.lead r h).1
theorem XU (A:Key 65535 K) (h:Canon P) (r:∀ t∈P,t.1.le 65535) (s:Zr K P t) (k:Zr K P u):t=u:=by
 have e:=A.inj _ _ (r t s.1) (r u k.1) (Int.le_antisymm (k.2 t s.1) (s.2 u k.1));have f:=h.Qa s.1;have v:=h.Qa k.1;rw[e,v] at f;exact Prod.ext e f.symm
theorem Step.falls {I:List Dv} (h:Dvs K I E) {M N:DS} (G:Canon M.p) (C:∀ t∈M.p,t.1.le e) (J:E+e<=65535) (S:Step K I M N):∃ t,Zr K M.p t/\∀ u∈N.p,K u.1<K t.1:=by
 cases S with
 | @hit t i d hl ht =>
  refine⟨t,hl,λu s=>?_⟩;have f:=List.mem_of_getElem? ht.1;have D:=h.lead d f;have H:(t.1.quo d.1.1).le e:=Mo.jeb (C t hl.1)
  have key:∀ a∈d.2,K (a.1.mul (t.1.quo d.1.1))=K a.1+K (t.1.quo d.1.1):=λa A =>
   h.key.add _ _ ((h.ex d f a A).up Zo) (H.up Zo) (((h.ex d f a A).mul H).up J)
  have F:K u.1<=K t.1/\u.1.le 65535:=by
   rcases jds s with ⟨v,r,e1⟩ | ⟨v,r,e1⟩
   ·rw[<- e1];exact⟨hl.2 v r,(C v r).up Zo⟩
   ·obtain⟨a,A,e2⟩:=UQ r;rw[<- e1,<- e2];refine⟨?_,((h.ex d f a A).mul H).up J⟩;show K (a.1.mul (t.1.quo d.1.1))<=_;rw[key a A,show K t.1=K d.1.1+K (t.1.quo d.1.1) by rw[<- key d.1 D.1,Mo.UM ht.2.1]];have:=D.2 a A;omega
  refine Int.lt_iff_le_and_ne.2 ⟨F.1,λe1=>?_⟩;have e2:=h.key.inj _ _ F.2 ((C t hl.1).up Zo) e1;have B:=(QL _ _).Qa s;rw[e2,UR,G.Qa hl.1,jar d.2 (byT t d.1) (n:=d.1.1) (Mo.UM ht.2.1),(h.can d f).Qa D.1] at B;refine(QL _ _).non u s ?_;rw[<- B];show t.2-d.1.2*(t.2/d.1.2)=0;rw[Rat.mul_comm,Rat.div_mul_cancel (h.ne f)]
  grind
 | @rest t hl ht =>
  refine⟨t,hl,λu s=>?_⟩
  have R:∃ v∈M.p,v.1=u.1:=by
   rcases jds s with U | ⟨v,r,e1⟩
   ·exact U
   ·rw[List.mem_singleton.1 r] at e1;exact⟨t,hl.1,e1⟩
  obtain⟨v,r,e1⟩:=R;refine Int.lt_iff_le_and_ne.2 ⟨by rw[<- e1];exact hl.2 v r,λe2=>?_⟩;have O:=h.key.inj _ _ (by rw[<- e1];exact(C v r).up Zo) ((C t hl.1).up Zo) e2;have B:=(QL _ _).Qa s;rw[O,UR,G.Qa hl.1,(QJ (G.non t hl.1)).Qa (List.mem_singleton.2 rfl)] at B;refine(QL _ _).non u s ?_;rw[<- B];show t.2-t.2=0;grind
def CD (L:List Tm) (k:Nat):Prop:=∃ D:Int,D≠0/\Ja D.natAbs<=k/\∀ t∈L,∃ z:Int,t.2*(D:Rat)=(z:Rat)/\Ja z.natAbs<=k
theorem CD.up {k B:Nat} (h:CD L k) (f:k<=B):CD L B:=by
 obtain⟨C,r,s,v⟩:=h;exact⟨C,r,zm s f,λt A=>let ⟨z,e,h⟩:=v t A;⟨z,e,zm h f⟩⟩
theorem CD.sub {A:List Tm} {k:Nat} (C:CD L k) (s:∀ t∈A,t∈L):CD A k:=by
 obtain⟨B,f,h,r⟩:=C;exact⟨B,f,h,λt v=>r t (s t v)⟩
theorem lq_make {v f:Int} {k:Nat} (s:f≠0) (h:Ja v.natAbs<=k) (r:Ja f.natAbs<=k):LQ ((v:Rat)/(f:Rat)) k:=by
 rw[<- Rat.divInt_eq_div];have A:=Xd v f s;exact⟨zm A.1 h,zm A.2 r⟩
theorem jdt {b:Int} (f:b≠0):(b:Rat)≠0:=λe=>f (Rat.intCast_inj.1 (e.trans Rat.intCast_zero.symm))
theorem frac_eq {a b:Int} {h:Rat} (f:b≠0) (r:h*(b:Rat)=(a:Rat)):h=(a:Rat)/(b:Rat):=by rw[<- r,Rat.mul_div_cancel (jdt f)]
theorem jdu (f:Rat):f*(f.den:Rat)=(f.num:Rat):=by
 have r:(f.num:Rat)/(f.den:Rat)=f:=by rw[<- Rat.mkRat_eq_div];exact Rat.mkRat_self f
 have h:(f.den:Rat)≠0:=by
  have:=jdt (b:=(f.den:Int)) (by have:=f.den_pos;omega);rwa [Rat.intCast_natCast] at this
 conv=>lhs;arg 1;rw[<- r]
 exact Rat.div_mul_cancel h
theorem CD.lq {k:Nat} (A:CD L k):∀ t∈L,LQ t.2 k:=λt s=>by
 obtain⟨B,f,h,r⟩:=A;obtain⟨z,e,v⟩:=r t s;rw[frac_eq f e];exact lq_make f v h
theorem Qx {a b:Int} (f:Ja a.natAbs<=i) (h:Ja b.natAbs<=j):Ja (a*b).natAbs<=i+j:=by
 rw[Int.natAbs_mul];exact zm (Jo _ _) (Nat.add_le_add f h)
theorem CD.of_aux {a b:Nat}:∀ {P:List Tm},(∀ t∈P,LS t.2 a b)->∃ A:Int,A≠0/\Ja A.natAbs<=1+P.length*b/\∀ t∈P,∃ z:Int,t.2*(A:Rat)=(z:Rat)/\Ja z.natAbs<=a+1+P.length*b
 | [],_=>⟨1,Ze,zm (by decide +kernel:Ja (Int.natAbs 1)<=1) Zo,λt f=>by cases f⟩
 | t :: r,h=>by
  obtain⟨A,C,B,D⟩:=CD.of_aux (P:=r) λu s=>h u (List.mem_cons_of_mem _ s)
  have f:=h t (List.mem_cons_self ..)
  have F:((t.2.den:Nat):Int)≠0:=by have:=t.2.den_pos;omega
  have v:(t :: r).length*b=r.length*b+b:=by rw[List.length_cons,Nat.add_mul,Nat.one_mul]
  refine⟨A*(t.2.den:Int),Int.mul_ne_zero C F,by rw[v];exact zm (Qx B f.l) Zo,λu s=>?_⟩
  rcases List.mem_cons.1 s with rfl | s
  ·refine⟨u.2.num*A,?_,?_⟩
   ·rw[Rat.intCast_mul,Rat.intCast_mul,Rat.intCast_natCast];have:=jdu u.2;grind
   ·rw[v];exact zm (Qx f.t B) Zo
  ·obtain⟨z,e,G⟩:=D u s;refine⟨z*(t.2.den:Int),?_,?_⟩
   ·rw[Rat.intCast_mul,Rat.intCast_mul,<- e];grind
   ·rw[v];exact zm (Qx G f.l) Zo
theorem CD.of {a b:Nat} (r:P.length<=n) (A:∀ t∈P,LS t.2 a b):CD P (a+1+n*b):=by
 obtain⟨v,f,B,h⟩:=CD.of_aux A;have:=Nat.mul_le_mul_right b r;exact⟨v,f,Zo,λt s=>let ⟨z,e,hz⟩:=h t s;⟨z,e,Zo⟩⟩
theorem CD.step {B:List Tm} {k g:Nat} (X:Canon P) (W:Canon B) (hp:CD P k) (Y:CD B g) (ht:t∈P) (r:d.2≠0) (v:LQ d.2 kd):CD (VI P (Ql B [byT t d])) (k+g+kd+1):=by
 obtain⟨N,a1,a2,C⟩:=hp;obtain⟨O,U,D,V⟩:=Y;obtain⟨M,R,H⟩:=C t ht
 have Z:d.2.num≠0:=λac=>r (Rat.num_eq_zero.1 ac)
 have aa:(d.2.den:Rat)≠0:=by
  have:=jdt (b:=(d.2.den:Int)) (by have:=d.2.den_pos;omega);rwa [Rat.intCast_natCast] at this
 refine⟨N*O*d.2.num,Int.mul_ne_zero (Int.mul_ne_zero a1 U) Z,zm (Qx (Qx a2 D) v.t) Zo,λu hu=>?_⟩
 -- the two parts' numbers
 have F:=(QL _ _).Qa hu;rw[UR] at F
 have hx:∃ x:Int,cf P u.1*(N:Rat)=(x:Rat)/\Ja x.natAbs<=k:=by
  by_cases f:cf P u.1=0
  ·exact⟨0,by rw[f];rw[Rat.zero_mul];rfl,by rw[Int.natAbs_zero,Jw];omega⟩
  ·obtain⟨c,h⟩:=Canon.Yj f;rw[X.Qa h];exact C _ h
 obtain⟨x,S,I⟩:=hx
 have A:∃ y:Int,cf (Ql B [byT t d]) u.1*((O:Rat)*(N:Rat)*(d.2.num:Rat))=((y*M*(d.2.den:Int):Int):Rat)/\Ja y.natAbs<=g:=by
  by_cases f:cf (Ql B [byT t d]) u.1=0
  ·refine⟨0,by rw[f,Rat.zero_mul,Int.zero_mul,Int.zero_mul];rfl,by rw[Int.natAbs_zero,Jw];omega⟩
  ·obtain⟨c,h⟩:=Canon.Yj f;obtain⟨ab,G,e⟩:=UQ h;rw[jar B (byT t d) e,W.Qa G];obtain⟨y,s,A⟩:=V ab G;refine⟨y,?_,A⟩;show ab.2*(t.2/d.2)*((O:Rat)*(N:Rat)*(d.2.num:Rat))=_;rw[Rat.intCast_mul,Rat.intCast_mul,<- s,<- R,Rat.intCast_natCast,<- jdu d.2];have:=Rat.div_mul_cancel (a:=t.2) r;grind
 obtain⟨y,s,J⟩:=A;refine⟨x*(O*d.2.num)-y*M*(d.2.den:Int),?_,?_⟩
 ·rw[<- F,Rat.intCast_sub,<- s,Rat.intCast_mul x,<- S];simp only[Rat.intCast_mul];grind
 ·refine zm (lenB_sub _ _) (Nat.succ_le_succ (Nat.max_le.2 ⟨?_,?_⟩))
  ·exact zm (Qx I (Qx D v.t)) Zo
  ·exact zm (Qx (Qx J H) v.l) Zo
theorem jeq (r:Canon P) (C:t∈P):∀ u∈VI P [t],u∈P/\u.1≠t.1:=λu D=>by
 have f:=(QL _ _).Qa D;have s:=(QL _ _).non u D;rw[UR] at f
 have h:u.1≠t.1:=λe=>by
  rw[e,r.Qa C,(QJ (r.non t C)).Qa (List.mem_singleton.2 rfl)] at f;exact s (by rw[<- f];grind)
 have F:cf [t] u.1=0:=XH λH G=>by rw[List.mem_singleton.1 G];exact λe=>h e.symm
 have v:cf P u.1=u.2:=by rw[<- f,F];grind
 obtain⟨c,B⟩:=Canon.Yj (l:=P) (m:=u.1) (by rw[v];exact s);have A:=r.Qa B;rw[v] at A;exact⟨by rw[show u=(u.1,c) from Prod.ext rfl A];exact B,h⟩
theorem ji5 {h:List Tm} (D:Canon h) (B:t.2≠0) (F:∀ H∈h,H.1≠t.1):∀ u∈Qv h [t],u∈h\/u=t:=λu v=>by
 have f:=(JL _ _).Qa v;have e:cf (Qv h [t]) u.1=cf h u.1+cf [t] u.1:=QU _ _ _;rw[e] at f;by_cases A:u.1=t.1
 ·refine Or.inr (Prod.ext A ?_);rw[A,XH F,(QJ B).Qa (List.mem_singleton.2 rfl),Rat.zero_add] at f;exact f.symm
 ·have C:cf [t] u.1=0:=XH λH G=>by rw[List.mem_singleton.1 G];exact λe=>A e.symm
  rw[C,Rat.add_zero] at f;obtain⟨c,s⟩:=Canon.Yj (l:=h) (m:=u.1) (by rw[f];exact(JL _ _).non u v);have r:=D.Qa s;rw[f] at r;exact Or.inl (by rw[show u=(u.1,c) from Prod.ext rfl r];exact s)
theorem lq_by {k:Nat} (s:d.2≠0) (h:LQ t.2 k) (f:LQ d.2 kd):LQ (byT t d).2 (k+kd):=by
 show LQ (t.2/d.2) (k+kd);rw[<- UJ t.2 d.2]
 have v:d.2.num≠0:=λr=>s (Rat.num_eq_zero.1 r)
 have r:=Xd (t.2.num*(d.2.den:Int)) (d.2.num*(t.2.den:Int)) (Int.mul_ne_zero v (by have:=t.2.den_pos;omega));exact⟨zm r.1 (Qx h.t f.l),zm r.2 (zm (Qx f.t h.l) Zo)⟩
open Go.RowKit Go.Sort
structure TV where
 c:FV
 m:Mo
def TV.cells (t:TV):List Value:=[.bool t.c.t.s,.slice t.c.t.a t.c.t.n t.c.t.c,.bool t.c.l.s,.slice t.c.l.a t.c.l.n t.c.l.c,.int .u16 t.m.x,.int .u16 t.m.y,.int .u16 t.m.z,.int .u16 t.m.t]
abbrev TV.v (t:TV):Value:=.agg #[.bool t.c.t.s,.slice t.c.t.a t.c.t.n t.c.t.c,.bool t.c.l.s,.slice t.c.l.a t.c.l.n t.c.l.c,.int .u16 t.m.x,.int .u16 t.m.y,.int .u16 t.m.z,.int .u16 t.m.t]
abbrev Mo.v (m:Mo):Value:=.agg #[.int .u16 m.x,.int .u16 m.y,.int .u16 m.z,.int .u16 m.t]
theorem TV.len (f:TV):f.cells.length=8:=rfl
def Mo.Small (m:Mo):Prop:=m.x<=65535/\m.y<=65535/\m.z<=65535/\m.t<=65535
abbrev TE:=TV × Rat
abbrev tm (e:TE):Tm:=(e.1.m,e.2)
theorem flat_get (v:List TV) (f A:Nat) (C:TV) (h:v[f]?=some C) (B:A<8):(v.flatMap TV.cells)[f*8+A]?=C.cells[A]?:=by
 induction v generalizing f with
 | nil=>simp at h
 | cons s r ih =>
  rw[List.flatMap_cons]
  cases f with
  | zero =>
   obtain rfl:s=C:=by simpa using h
   rw[Nat.zero_mul,Nat.zero_add,List.getElem?_append_left (by rw[TV.len];exact B)]
  | succ f =>
   rw[List.getElem?_append_right (by rw[TV.len];omega),TV.len,show(f+1)*8+A-8=f*8+A by omega];exact ih f (by simpa using h)
theorem Y1 (f:List TV):(f.flatMap TV.cells).length=f.length*8:=by
 induction f with
 | nil=>rfl
 | cons s r ih=>rw[List.flatMap_cons,List.length_append,ih,TV.len,List.length_cons];omega
structure RT (w:World) (a:Option Addr) (ts:List TV):Prop where
 ex:ts≠[]->∃ b off,a=some ⟨b,off,none⟩/\∀ i t,ts[i]?=some t->∀ j v,t.cells[j]?=some v->w.cell? ⟨b,off+i*8+j,none⟩=some v
theorem RT.nil (h:World) (a:Option Addr):RT h a []:=⟨λf=>absurd rfl f⟩
theorem RT.below {a:Option Addr} {h:List TV} (F:RT w a h) (s:Bl w w'):RT w' a h:=by
 refine⟨λD=>?_⟩;obtain⟨b,off,r,A⟩:=F.ex D;refine⟨b,off,r,λi t B j v C=>?_⟩;have f:=A i t B j v C;exact(s.cell (p:=⟨b,off+i*8+j,none⟩) (block_lt_of_cell f)).trans f
theorem RT.eight {b off:Nat} {r:List TV} {t:TV} (f:∀ i t,r[i]?=some t->∀ j v,t.cells[j]?=some v->w.cell? ⟨b,off+i*8+j,none⟩=some v) (h:r[i]?=some t) :
  w.cell? ⟨b,off+i*8,none⟩=some (.bool t.c.t.s)/\w.cell? ⟨b,off+i*8+1,none⟩=some (.slice t.c.t.a t.c.t.n t.c.t.c)/\w.cell? ⟨b,off+i*8+2,none⟩=some (.bool t.c.l.s)/\w.cell? ⟨b,off+i*8+3,none⟩=some (.slice t.c.l.a t.c.l.n t.c.l.c) /\
  w.cell? ⟨b,off+i*8+4,none⟩=some (.int .u16 t.m.x)/\w.cell? ⟨b,off+i*8+5,none⟩=some (.int .u16 t.m.y)/\w.cell? ⟨b,off+i*8+6,none⟩=some (.int .u16 t.m.z)/\w.cell? ⟨b,off+i*8+7,none⟩=some (.int .u16 t.m.t) :=
 ⟨f i t h 0 _ rfl,f i t h 1 _ rfl,f i t h 2 _ rfl,f i t h 3 _ rfl,f i t h 4 _ rfl,f i t h 5 _ rfl,f i t h 6 _ rfl,f i t h 7 _ rfl⟩
theorem RT.off {a:Option Addr} {h:List TV} (A:RT w a h) (f:i<h.length):∃ b off,a=some ⟨b,off,none⟩/\b<w.heap.size/\∀ i t,h[i]?=some t->∀ j v,t.cells[j]?=some v->w.cell? ⟨b,off+i*8+j,none⟩=some v:=by
 obtain⟨b,off,s,r⟩:=A.ex (λe=>by rw[e] at f;simp at f);exact⟨b,off,s,block_lt_of_cell (r i _ (List.getElem?_eq_getElem f) 0 _ rfl),r⟩
abbrev OT (w:World) (lo:Nat) (v:Value) (ts:List TV):Prop:=w.ownsRow lo 37 8 v ts.length (ts.flatMap TV.cells)
theorem OT.slice {v:Value} {f:List TV} (N:OT w lo v f):∃ a c,v=.slice a f.length c/\f.length<=c/\RT w a f:=by
 rcases N.2 with ⟨r,G⟩ | ⟨g,s,I,r,_,hg,F,_,J,h⟩
 ·have H:f=[]:=List.length_eq_zero_iff.1 G;subst H;exact⟨none,0,r,zj,RT.nil _ _⟩
 ·refine⟨some ⟨g,0,none⟩,s,r,F,⟨λO=>⟨g,0,rfl,λi t B j v C=>?_⟩⟩⟩
  have D:j<8:=by have:=(List.getElem?_eq_some_iff.1 C).1;rw[TV.len] at this;exact this
  have M:=(List.getElem?_eq_some_iff.1 B).1;rw[cell_of_row _ _ _ _ _ _ hg,Nat.zero_add];have A:=flat_get f i j t B D;rw[<- h,List.getElem?_take,if_pos Zo,Array.getElem?_toList] at A;rw[A,C]
theorem OT.below {v:Value} {s:List TV} (D:OT w lo v s) (B:Bl w w'):OT w' lo v s:=by
 refine⟨D.1,D.2.imp id ?_⟩;rintro⟨g,f,h,C,r,hg,A⟩;exact⟨g,f,h,C,r,(B.block g (lt_of_block hg)).trans hg,A⟩
theorem OT.mono {v:Value} {r:List TV} (B:OT w lo v r) (D:lo'<=lo):OT w lo' v r:=by
 refine⟨B.1,B.2.imp id ?_⟩;rintro⟨g,f,h,A,C,s⟩;exact⟨g,f,h,A,Zo,s⟩
def FV.apart (x y:FV):Prop:=∀ b,FV.blk x b->¬FV.blk y b
theorem FV.apart.symm {r s:FV} (v:FV.apart r s):FV.apart s r:=λb f h=>v b h f
structure PV where
 a:Option Addr
 n:Nat
 c:Nat
abbrev PV.v (x:PV):Value:=.slice x.a x.n x.c
theorem PV.inj {f h:PV} (r:f.v=h.v):f=h:=by
 obtain⟨a,n,c⟩:=f;obtain⟨s,A,v⟩:=h;simp only[PV.v,Value.slice.injEq] at r;obtain⟨rfl,rfl,rfl⟩:=r;rfl
structure KP (w:World) (x:PV) (P:List Tm):Prop where
 ex:∃ L:List TE,RT w x.a (L.map Prod.fst)/\L.length=x.n/\(∀ e∈L,KF w e.1.c e.2)/\L.map tm=P
 le:x.n<=x.c
 canon:Canon P
 small:∀ t∈P,t.1.Small
theorem KP.below {C:PV} (h:KP w C P) (f:Bl w w'):KP w' C P:=by
 obtain⟨L,r,s,v,A⟩:=h.ex;exact⟨⟨L,r.below f,s,λe B=>(v e B).below f,A⟩,h.le,h.canon,h.small⟩
theorem KP.len {r:PV} (s:KP w r P):r.n=P.length:=by
 obtain⟨L,_,f,_,h⟩:=s.ex;rw[<- f,<- h,List.length_map]
theorem KP.nil (r:World) (a:Option Addr) (h:Nat):KP r ⟨a,0,h⟩ []:=⟨⟨[],RT.nil _ _,rfl,λ_ f=>(by cases f),rfl⟩,Nat.zero_le _,Canon.nil,λ_ f=>(by cases f)⟩
structure DP (w:World) (lo:Nat) (x:PV) (P:List Tm):Prop where
 ex:∃ L:List TE,OT w lo x.v (L.map Prod.fst)/\(∀ e∈L,DF w lo e.1.c e.2)/\L.Pairwise (λe f=>FV.apart e.1.c f.1.c)/\L.map tm=P
 canon:Canon P
 small:∀ t∈P,t.1.Small
theorem DP.k {C:PV} (f:DP w lo C P):KP w C P:=by
 obtain⟨L,h,r,_,s⟩:=f.ex;obtain⟨a,c,e,v,B⟩:=OT.slice h;obtain⟨D,G,F⟩:=C;simp only[PV.v,Value.slice.injEq] at e;obtain⟨rfl,rfl,rfl⟩:=e;exact⟨⟨L,B,(List.length_map ..).symm,λe A=>(r e A).k,s⟩,v,f.canon,f.small⟩
theorem DP.below {C:PV} (h:DP w lo C P) (f:Bl w w'):DP w' lo C P:=by
 obtain⟨L,r,s,v,A⟩:=h.ex;exact⟨⟨L,OT.below r f,λe B=>(s e B).below f,v,A⟩,h.canon,h.small⟩
theorem DP.mono {C:PV} (h:DP w lo C P) (f:lo'<=lo):DP w lo' C P:=by
 obtain⟨L,r,s,v,A⟩:=h.ex;exact⟨⟨L,OT.mono r f,λe B=>(s e B).mono f,v,A⟩,h.canon,h.small⟩
abbrev TO:=TV × Option Rat
def TO.ok (w:World) (e:TO):Prop:=match e.2 with
 | some q=>KF w e.1.c q
 | none=>BF w e.1.c
def jcj (w:World) (x:PV) (L:List TO):Prop:=RT w x.a (L.map Prod.fst)/\L.length=x.n/\x.n<=x.c/\(∀ e∈L,TO.ok w e)/\(∀ e∈L,e.1.m.Small)/\(∀ e∈L,LF e.1.c 900000)
def vals:List TO->Option (List Tm)
 | []=>some []
 | e :: r=>match e.2,vals r with
  | some q,some l=>some ((e.1.m,q) :: l)
  | _,_=>none
def okP (L:List TO):Prop:=∃ P,vals L=some P/\Canon P
theorem Vs:∀ {L:List TO} {P:List Tm},vals L=some P->∃ K:List TE,L=K.map (λe=>(e.1,some e.2))/\K.map tm=P
 | [],P,h=>by
  obtain rfl:[]=P:=Option.some.inj h
  exact⟨[],rfl,rfl⟩
 | (t,o) :: r,P,h=>by
  unfold vals at h
  cases o with
  | none=>simp at h
  | some q =>
   cases hr:vals r with
   | none=>simp[hr] at h
   | some l =>
    simp only[hr,Option.some.injEq] at h;obtain⟨K,f,s⟩:=Vs hr;exact⟨(t,q) :: K,by rw[f];rfl,by rw[<- h,<- s];rfl⟩
theorem jcj.below {G:PV} {F:List TO} (H:jcj w G F) (h:Bl w w'):jcj w' G F:=by
 obtain⟨r,s,v,A,B,C⟩:=H;refine⟨r.below h,s,v,λe D=>?_,B,C⟩;have f:=A e D;unfold TO.ok at f ⊢;split at f
 ·exact f.below h
 ·exact f.below h
theorem jcj.kp {I:PV} {H:List TO} (J:jcj w I H) (G:vals H=some P) (F:Canon P):KP w I P:=by
 obtain⟨K,f,s⟩:=Vs G;obtain⟨r,A,B,C,D,M⟩:=J;refine⟨⟨K,?_,by rw[<- A,f,List.length_map],λe h=>?_,s⟩,B,F,λt v=>?_⟩
 ·rw[f,List.map_map] at r;exact r
 ·exact C (e.1,some e.2) (by rw[f];exact List.mem_map_of_mem h)
 ·rw[<- s] at v;obtain⟨e,h,rfl⟩:=List.mem_map.1 v;exact D (e.1,some e.2) (by rw[f];exact List.mem_map_of_mem h)
def BP (w:World) (x:PV):Prop:=∃ L,jcj w x L/\¬okP L
theorem BP.below {s:PV} (v:BP w s) (r:Bl w w'):BP w' s:=by
 obtain⟨L,f,h⟩:=v;exact⟨L,f.below r,h⟩
def AP (w:World) (x:PV) (P:List Tm):Prop:=KP w x P\/(BP w x/\P=[])
theorem AP.below {r:PV} (f:AP w r P) (h:Bl w w'):AP w' r P:=f.imp (λf=>f.below h) (λf=>⟨f.1.below h,f.2⟩)
theorem KP.any {f:PV} (h:KP w f P):AP w f P:=Or.inl h
end Pol
namespace Pol
open Limb
variable {u w w':World} {G W b fuel g k k0 kd lo n r:Nat} {c m:Mo} {P:List Tm} {K:Mo->Int}
def wt (c m:Mo):Nat:=c.x*m.x+c.y*m.y+c.z*m.z+c.t*m.t
theorem wt_mul (f a b:Mo):wt f (a.mul b)=wt f a+wt f b:=by simp only[wt,Mo.mul,Nat.mul_add];omega
structure Mo.pos (c:Mo):Prop where
 x:1<=c.x
 y:1<=c.y
 z:1<=c.z
 t:1<=c.t
theorem wt_le (H:c.pos) (A:wt c m<=W):m.le W:=by
 obtain⟨f,h,s,v⟩:=H;unfold wt at A;have B:=Nat.le_mul_of_pos_left m.x f;have C:=Nat.le_mul_of_pos_left m.y h;have D:=Nat.le_mul_of_pos_left m.z s;have F:=Nat.le_mul_of_pos_left m.t v;exact⟨Zo,Zo,Zo,Zo⟩
def Xt (c:Mo) (W:Nat):List Mo:=(List.range (W/c.x+1)).flatMap λx=>(List.range (W/c.y+1)).flatMap λy=>(List.range (W/c.z+1)).flatMap λz=>((List.range (W/c.t+1)).map λt=>(⟨x,y,z,t⟩:Mo)).filter λm=>decide (wt c m<=W)
theorem jas (C:c.pos) (f:wt c m<=W):m∈Xt c W:=by
 obtain⟨h,s,v,A⟩:=C;have B:c.x*m.x+c.y*m.y+c.z*m.z+c.t*m.t<=W:=f
 refine List.mem_flatMap.2 ⟨m.x,List.mem_range.2 (Nat.lt_succ_of_le ((Nat.le_div_iff_mul_le h).2 (by rw[Nat.mul_comm];omega))),List.mem_flatMap.2 ⟨m.y,List.mem_range.2 (Nat.lt_succ_of_le ((Nat.le_div_iff_mul_le s).2 (by rw[Nat.mul_comm];omega))),
  List.mem_flatMap.2 ⟨m.z,List.mem_range.2 (Nat.lt_succ_of_le ((Nat.le_div_iff_mul_le v).2 (by rw[Nat.mul_comm];omega))),List.mem_filter.2 ⟨List.mem_map.2 ⟨m.t,List.mem_range.2 (Nat.lt_succ_of_le ((Nat.le_div_iff_mul_le A).2 (by rw[Nat.mul_comm];omega))),rfl⟩,decide_eq_true f⟩⟩⟩⟩
theorem nodup_le {v A:List Mo} (D:v.Nodup) (s:∀ m∈v,m∈A):v.length<=A.length:=by
 induction v generalizing A with
 | nil=>exact Nat.zero_le _
 | cons a r ih =>
  obtain⟨C,F⟩:=List.nodup_cons.1 D;have f:=s a (List.mem_cons_self ..)
  have B:=ih (A:=A.erase a) F λm h=>(List.mem_erase_of_ne (λ(e:m=a)=>C (by rw[<- e];exact h))).2 (s m (List.mem_cons_of_mem _ h))
  rw[List.length_erase_of_mem f] at B;have:=List.length_pos_of_mem f;rw[List.length_cons];omega
theorem Vt (h:Canon P) {B:List Mo} (v:∀ t∈P,t.1∈B):P.length<=B.length:=by
 rw[<- List.length_map (f:=λt:Tm=>t.1)]
 refine nodup_le ?_ λm s=>?_
 ·refine List.nodup_iff_pairwise_ne.2 ?_;rw[List.pairwise_map];exact List.Pairwise.imp (R:=λ(D t:Tm)=>t.1.lt D.1) (λ{a b} (C:b.1.lt a.1) (e:a.1=b.1)=>Mo.lt_irrefl b.1 (by rw[e] at C;exact C)) h.falls
 ·obtain⟨t,A,rfl⟩:=List.mem_map.1 s;exact v t A
def XD (K:Mo->Int) (A:List Mo) (P:List Tm):Nat:=A.countP λm=>P.any λt=>decide (K m<=K t.1)
theorem jf2 {D:Type} {C v:D->Bool}:∀ {l:List D},(∀ a∈l,C a=true->v a=true)->(∃ a∈l,v a=true/\C a=false)->l.countP C<l.countP v
 | [],_,⟨_,h,_⟩=>by cases h
 | a :: r,h,hx=>by
  have I:r.countP C<=r.countP v:=List.countP_mono_left λb f=>h b (List.mem_cons_of_mem _ f)
  obtain⟨b,f,B,A⟩:=hx
  rcases List.mem_cons.1 f with rfl | f
  ·rw[List.countP_cons_of_neg (by rw[A];decide),List.countP_cons_of_pos B];omega
  ·have J:=jf2 (l:=r) (λc H=>h c (List.mem_cons_of_mem _ H)) ⟨b,f,B,A⟩;have F:=h a (List.mem_cons_self ..);by_cases s:C a=true
   ·rw[List.countP_cons_of_pos s,List.countP_cons_of_pos (F s)];omega
   ·rw[List.countP_cons_of_neg s]
    have:r.countP v<=(a :: r).countP v:=by
     rw[List.countP_cons];exact Nat.le_add_right _ _
    omega
theorem leftM_lt {B:List Mo} {F:List Tm} {v:Tm} (A:v∈P) (D:v.1∈B) (H:∀ u∈F,K u.1<K v.1):XD K B F<XD K B P:=by
 refine jf2 (λm _ h=>?_) ⟨v.1,D,List.any_eq_true.2 ⟨v,A,decide_eq_true (Int.le_refl _)⟩,?_⟩
 ·obtain⟨u,s,f⟩:=List.any_eq_true.1 h;have f:=of_decide_eq_true f;have C:=H u s;exact List.any_eq_true.2 ⟨v,A,decide_eq_true Zo⟩
 ·refine Bool.eq_false_iff.2 λh=>?_
  obtain⟨u,s,f⟩:=List.any_eq_true.1 h;have f:=of_decide_eq_true f;have C:=H u s;omega
theorem leftM_le (h:Mo->Int) (f:List Mo) (s:List Tm):XD h f s<=f.length:=List.countP_le_length
structure Dvb (K:Mo->Int) (ds:List Dv) (c:Mo) (W E nd kd g:Nat):Prop where
 d:Dvs K ds E
 wt:∀ d∈ds,∀ t∈d.2,Pol.wt c t.1<=Pol.wt c d.1.1
 cd:∀ d∈ds,CD d.2 g
 lq:∀ d∈ds,∀ t∈d.2,LQ t.2 kd
 len:∀ d∈ds,d.2.length<=nd
 pos:c.pos
 small:E+W<=65535
structure GI (K:Mo->Int) (ds:List Dv) (P:List Tm) (c:Mo) (W k0 G kd:Nat) (top:Int) (s:DS):Prop where
 al:Alls ds P s
 w:∀ t∈s.p,wt c t.1<=W
 cd:CD s.p (k0+G*((Xt c W).length-XD K (Xt c W) s.p))
 r:∀ t∈s.r,LQ t.2 (k0+G*((Xt c W).length-XD K (Xt c W) s.p))/\wt c t.1<=W/\(∀ d∈ds,¬d.1.1.stands t.1)/\(∀ u∈s.p,K u.1<K t.1)
 o:∀ (i:Nat) (d:Dv) (q:List Tm),ds[i]?=some d->s.os[i]?=some q->∀ v∈q,LQ v.2 (k0+G*((Xt c W).length-XD K (Xt c W) s.p)+kd)/\wt c v.1<=W/\K (v.1.mul d.1.1)<=top/\(∀ u∈s.p,K u.1<K (v.1.mul d.1.1))/\v.1.le W
 top:∀ t∈s.p,K t.1<=top
theorem GI.start {h:List Dv} {f:Int} (B:Canon P) (F:∀ t∈P,wt c t.1<=W) (C:CD P k0) (s:∀ t∈P,K t.1<=f):GI K h P c W k0 G kd f ⟨P,[],List.replicate h.length []⟩ where
 al:=Alls.start B h
 w:=F
 cd:=C.up (Nat.le_add_right _ _)
 r:=λt s=>by cases s
 o:=λi d q _ D v A=>by
  have:=List.mem_of_getElem? D;rw[(List.mem_replicate.1 this).2] at A
  cases A
 top:=s
theorem GI.box {h:List Dv} {f:Int} {B:DS} (C:GI K h P c W k0 G kd f B) (s:c.pos) {A:Tm} (v:A∈B.p):A.1∈Xt c W:=jas s (C.w A v)
theorem wt_quo {a b:Mo} (h:b.stands a):wt c (a.quo b)+wt c b=wt c a:=by
 have f:=wt_mul c b (a.quo b);rw[Mo.UM h] at f;omega
theorem GI.step {ds:List Dv} {E nd:Nat} {af:Int} {I N:DS} (A:Dvb K ds c W E nd kd g) (hG:g+kd+1<=G) (B:GI K ds P c W k0 G kd af I) (hs:Step K ds I N) :
  GI K ds P c W k0 G kd af N/\XD K (Xt c W) N.p<XD K (Xt c W) I.p:=by
 have M:∀ t∈I.p,t.1.le W:=λt H=>wt_le A.pos (B.w t H)
 obtain⟨t,h,F⟩:=hs.falls A.d B.al.cp M A.small;have aj:XD K (Xt c W) N.p<XD K (Xt c W) I.p:=leftM_lt h.1 (B.box A.pos h.1) F;have hN:=leftM_le K (Xt c W) I.p
 have R:k0+G*((Xt c W).length-XD K (Xt c W) I.p)+G<=k0+G*((Xt c W).length-XD K (Xt c W) N.p):=by
  have O:(Xt c W).length-XD K (Xt c W) I.p+1<=(Xt c W).length-XD K (Xt c W) N.p:=Zo;have h2:=Nat.mul_le_mul_left G O;rw[Nat.mul_add,Nat.mul_one] at h2;omega
 refine⟨?_,aj⟩;have aa:=B.al.step hs
 have ae:∀ m:Mo,m.le W->m.le 65535:=λm hm=>hm.up (by have:=A.small;omega)
 cases hs with
 | @hit t' i d hl' H =>
  obtain rfl:t'=t:=XU A.d.key B.al.cp (λu f=>ae _ (M u f)) hl' h;have C:=List.mem_of_getElem? H.1;have ac:=A.d.lead d C;have am:wt c (t'.1.quo d.1.1)+wt c d.1.1=wt c t'.1:=wt_quo H.2.1;have an:=B.w t' h.1;have ag:(t'.1.quo d.1.1).le W:=Mo.jeb (M t' h.1);refine⟨aa,λu f=>?_,?_,λu f=>?_,λj e q S D v s=>?_,λu f=>Int.le_trans (Int.le_of_lt (F u f)) (B.top t' h.1)⟩
  ·rcases jds f with ⟨v,s,e⟩ | ⟨v,s,e⟩
   ·rw[<- e];exact B.w v s
   ·obtain⟨a,ha,e2⟩:=UQ s;rw[<- e,<- e2,wt_mul];have:=A.wt d C a ha;show wt c a.1+wt c (t'.1.quo d.1.1)<=W;omega
  ·refine(CD.step B.al.cp (A.d.can d C) B.cd (A.cd d C) h.1 (A.d.ne C) (A.lq d C d.1 ac.1)).up ?_;show _<=k0+G*((Xt c W).length-XD K (Xt c W) (VI I.p (Ql d.2 [byT t' d.1])));change k0+G*((Xt c W).length-XD K (Xt c W) I.p)+G<=k0+G*((Xt c W).length-XD K (Xt c W) (VI I.p (Ql d.2 [byT t' d.1]))) at R;omega
  ·obtain⟨r1,r2,r3,r4⟩:=B.r u f;exact⟨r1.up (zm (Nat.le_add_right _ _) R),r2,r3,λv s=>Int.lt_trans (F v s) (r4 t' h.1)⟩
  ·change (I.os.modify i λq=>Qv q [byT t' d.1])[j]?=some q at D;rw[List.getElem?_modify] at D;by_cases ab:i=j
   ·subst ab;rw[H.1] at S;obtain rfl:d=e:=Option.some.inj S
    obtain⟨q0,ad,ak⟩:∃ q0,I.os[i]?=some q0/\Qv q0 [byT t' d.1]=q:=by
     cases hx:I.os[i]? with
     | none=>rw[hx] at D;simp at D
     | some q0=>rw[hx] at D;exact⟨q0,rfl,by simpa using D⟩
    subst ak;have ai:=B.al.co q0 (List.mem_of_getElem? ad);have V:=B.o i d q0 H.1 ad;have ah:(byT t' d.1).2≠0:=jec (B.al.cp.non _ h.1) (A.d.ne C)
    have U:K ((byT t' d.1).1.mul d.1.1)=K t'.1:=by
     show K ((t'.1.quo d.1.1).mul d.1.1)=_;rw[Mo.mul_comm,Mo.UM H.2.1]
    rcases ji5 ai ah (λv s e=>by
      have O:=(V v s).2.2.2.1 t' h.1;rw[e,U] at O
      omega) v s with s | rfl
    ·obtain⟨o1,o2,X,Y,Z⟩:=V v s;exact⟨o1.up Zo,o2,X,λu f=>Int.lt_trans (F u f) (Y t' h.1),Z⟩
    ·refine⟨(lq_by (A.d.ne C) (B.cd.lq t' h.1) (A.lq d C d.1 ac.1)).up Zo,?_,?_,λu f=>?_,ag⟩
     ·show wt c (t'.1.quo d.1.1)<=W;omega
     ·rw[U];exact B.top t' h.1
     ·rw[U];exact F u f
   ·have D:I.os[j]?=some q:=by simpa[ab] using D
    obtain⟨o1,o2,X,Y,Z⟩:=B.o j e q S D v s
    exact⟨o1.up Zo,o2,X,λu f=>Int.lt_trans (F u f) (Y t' h.1),Z⟩
 | @rest t' hl' H =>
  obtain rfl:t'=t:=XU A.d.key B.al.cp (λu f=>ae _ (M u f)) hl' h
  have J:∀ u∈VI I.p [t'],u∈I.p:=λu f=>(jeq B.al.cp h.1 u f).1
  refine⟨aa,λu f=>B.w u (J u f),(B.cd.sub J).up (zm (Nat.le_add_right _ _) R),λu f=>?_,λj e q S D v s=>?_,λu f=>B.top u (J u f)⟩
  ·rcases ji5 B.al.cr (B.al.cp.non _ h.1) (λv s e=>by
     have O:=(B.r v s).2.2.2 t' h.1;rw[e] at O
     omega) u f with f | rfl
   ·obtain⟨r1,r2,r3,r4⟩:=B.r u f;exact⟨r1.up (zm (Nat.le_add_right _ _) R),r2,r3,λv s=>Int.lt_trans (F v s) (r4 t' h.1)⟩
   ·exact⟨(B.cd.lq _ h.1).up (zm (Nat.le_add_right _ _) R),B.w _ h.1,H,F⟩
  ·obtain⟨o1,o2,X,Y,Z⟩:=B.o j e q S D v s;exact⟨o1.up Zo,o2,X,λu f=>Int.lt_trans (F u f) (Y t' h.1),Z⟩
open Go.RowKit Go.Sort
def YJ (m:Mo) (q:Rat):List Tm->List Tm
 | []=>[(m,q)]
 | s :: r=>if s.1=m then (m,s.2+q) :: r else s :: YJ m q r
theorem Ve (h:Mo) (v:Rat) (f:Mo->Rat):∀ l:List Tm,ev (YJ h v l) f=v*f h+ev l f
 | []=>by unfold YJ;rw[Jq]
 | s :: r=>by
  unfold YJ;split
  ·rename_i A;rw[Jq,Jq,A];grind
  ·rw[Jq,Jq,Ve h v f r];grind
def ent (p:TE × Nat):MapEntry:={ key:=Mo.v p.1.1.m,val:=p.1.1.c.v,born:=p.2 }
def Xm (L:List TE):List MapEntry:=L.zipIdx.map ent
theorem Za (h:List TE) (f:Nat):(Xm h)[f]?=(h[f]?).map (λe=>ent (e,f)):=by
 unfold Xm;rw[List.getElem?_map,List.getElem?_zipIdx,Option.map_map,Nat.zero_add];rfl
theorem jkn (f:List TE) (e:TE):Xm (f++[e])=Xm f++[ent (e,f.length)]:=by
 unfold Xm;rw[List.zipIdx_append,List.map_append,Nat.zero_add];rfl
theorem jat (f:List TE):(Xm f).length=f.length:=by unfold Xm;rw[List.length_map,List.length_zipIdx]
def place (m:Mo):List TE->Nat->Option (Nat × TE)
 | [],_=>none
 | e :: r,i=>if m=e.1.m then some (i,e) else place m r (i+1)
theorem X3:∀ {L:List TE} {i j:Nat} {e:TE},place m L i=some (j,e)->i<=j/\L[j-i]?=some e/\e.1.m=m
 | [],i,j,e,h=>by cases h
 | a :: r,i,j,e,h=>by
  unfold place at h;split at h
  ·rename_i v;simp only[Option.some.injEq,Prod.mk.injEq] at h;obtain⟨rfl,rfl⟩:=h;exact⟨zj,by simp,v.symm⟩
  ·obtain⟨A,f,s⟩:=X3 h;refine⟨Zo,?_,s⟩;rw[show j-i=(j-(i+1))+1 by omega,List.getElem?_cons_succ];exact f
theorem YA:∀ {L:List TE} {i:Nat},place m L i=none->∀ e∈L,e.1.m≠m
 | [],_,_,e,f=>by cases f
 | a :: r,i,h,e,f=>by
  unfold place at h;split at h
  ·cases h
  ·rename_i s
   rcases List.mem_cons.1 f with rfl | f
   ·exact λe=>s e.symm
   ·exact YA h e f
theorem mo_beq (a b:Mo):(((a.x:Int)==(b.x:Int))&&(((a.y:Int)==(b.y:Int))&&(((a.z:Int)==(b.z:Int))&&((a.t:Int)==(b.t:Int)))))=decide (a=b):=by
 rw[Bool.eq_iff_iff];simp only[Bool.and_eq_true,beq_iff_eq,decide_eq_true_eq,Mo.eq_iff];omega
theorem run_eqM (a b:Mo) (f:World):(Op.equal 35 (Mo.v a) (Mo.v b)).run prog f=.ok (decide (a=b)) f:=by
 rw[<- mo_beq];exact Mono.jik a.x a.y a.z a.t b.x b.y b.z b.t f
theorem UT (h:Mo) (s:World):∀ (L:List TE) (i:Nat),(Instr.findAsking 35 (Mo.v h) ((L.zipIdx i).map ent) i).run prog s=.ok ((place h L i).map λp=>(p.1,p.2.1.c.v)) s
 | [],i=>by rfl
 | e :: r,i=>by
  rw[List.zipIdx_cons,List.map_cons,Instr.findAsking,Sem.run_bind];rw[show(ent (e,i)).key=Mo.v e.1.m from rfl,run_eqM,Result.andThen_ok];unfold place;by_cases f:h=e.1.m
  ·rw[if_pos f,decide_eq_true f];rfl
  ·rw[if_neg f,zo f];exact UT h s r (i+1)
theorem jau (h:Mo) (s:World) (f:List TE):(Instr.findKey 35 (Mo.v h) (Xm f)).run prog s=.ok ((place h f 0).map λp=>(p.1,p.2.1.c.v)) s:=by
 unfold Instr.findKey;rw[Sem.run_bind,run_underlying underlying35,Result.andThen_ok]
 cases f with
 | nil=>rfl
 | cons e r=>exact UT h s (e :: r) 0
theorem jhm (b:Bool) (n:Nat) (h:Int) (f:World):(Instr.checkKey b (n+1) 33 (.int .u16 h)).run prog f=.ok () f:=by
 rw[Instr.checkKey];simp[Sem.run_bind,run_underlying underlying33]
theorem jhn (b:Bool) (n:Nat) (s:Mo) (h:World):(Instr.checkKey b (n+1+1) 35 (Mo.v s)).run prog h=.ok () h:=by
 have f:∀ h,(sizeOf 33).run prog h=.ok 1 h:=λ_=>Zk
 rw[Instr.checkKey];simp only[Sem.run_bind,run_underlying underlying35,Result.andThen_ok,f];simp only[Std.Legacy.Range.forIn_eq_forIn_range',Std.Legacy.Range.size,Nat.sub_zero,Nat.add_sub_cancel,Nat.div_one,List.range'_succ,List.range'_zero,List.forIn_cons,List.forIn_nil];simp[Sem.run_bind,Mono.part0,Mono.part1,Mono.part2,Mono.part3,jhm,f]
theorem jck (b:Bool) (s:Mo) (f:World):(Instr.checkKey b 10000 35 (Mo.v s)).run prog f=.ok () f:=by
 have h:=jhn b 9998 s f;simp only[Nat.reduceAdd] at h;exact h
structure MK (w:World) (lo b:Nat) (L:List TE):Prop where
 blk:w.heap[b]?=some (.map (Xm L).toArray L.length)
 ge:lo<=b
 df:∀ e∈L,DF w lo e.1.c e.2
 ap:L.Pairwise (λe f=>FV.apart e.1.c f.1.c)
 keys:(L.map λe=>e.1.m).Nodup
 small:∀ e∈L,e.1.m.Small
theorem MK.lt {f:List TE} (h:MK w lo b f):b<w.heap.size:=lt_of_block h.blk
theorem MK.below {v:List TE} (f:MK w lo b v) (h:Bl w w'):MK w' lo b v :=
 ⟨(h.block b f.lt).trans f.blk,f.ge,λe s=>(f.df e s).below h,f.ap,f.keys,f.small⟩
theorem run_look {h:List TE} (A:MK w lo b h) (s:Mo) :
  (Instr.lookup 84 (.map (some b)) (Mo.v s) true).run prog w=.ok (match place s h 0 with
   | some p=>.tuple #[p.2.1.c.v,.bool true]
   | none=>.tuple #[.agg #[.bool false,.slice none 0 0,.bool false,.slice none 0 0],.bool false]) w:=by
 have v:∀ w,(zeroValue 32).run prog w=.ok (.agg #[.bool false,.slice none 0 0,.bool false,.slice none 0 0]) w:=λ_=>Zk
 unfold Instr.lookup;simp only[Sem.run_bind,run_underlying underlying84,Result.andThen_ok,getObj,Sem.run,A.blk,jck,jau];have f:=jau s w h
 cases hp:place s h 0 with
 | none=>rw[hp] at f;simp[Sem.run_bind,v,f]
 | some p=>rw[hp] at f;simp[Sem.run_bind,f]
def putObj (X:World) (r:Nat) (o:Obj):World:={ X with heap:=X.heap.setIfInBounds r o }
theorem Xe (f:World) (r:Nat) (o:Obj):(putObj f r o).heap.size=f.heap.size:=by simp[putObj]
theorem QS {h:World} {o f:Obj} (s:h.heap[r]?=some f):(putObj h r o).heap[r]?=some o:=by
 have:=lt_of_block s;simp[putObj,this]
theorem Qk (f:World) (o:Obj) (h:k≠r):(putObj f r o).heap[k]?=f.heap[k]?:=by
 simp[putObj,Array.getElem?_setIfInBounds];omega
def upd (x:FV) (m:Mo) (q:Rat) (L:List TE):List TE:=match place m L 0 with
 | some p=>L.set p.1 (⟨x,m⟩,q)
 | none=>L++[(⟨x,m⟩,q)]
theorem ents_set (v:List TE) (s:Nat) (e:TE):Xm (v.set s e)=(Xm v).set s (ent (e,s)):=by
 apply List.ext_getElem?;intro j;rw[Za,List.getElem?_set,List.getElem?_set,Za,jat];by_cases f:s=j
 ·subst f;simp only[if_pos rfl];by_cases h:s<v.length
  ·rw[if_pos h,if_pos h];rfl
  ·rw[if_neg h,if_neg h];rfl
 ·rw[if_neg f,if_neg f]
theorem jho (n:Nat) (f:Mo):Instr.sameBits (n+1) (Mo.v f) (Mo.v f)=true:=by
 rw[Instr.sameBits];simp[Instr.sameBits]
theorem jko (f:Mo):Instr.sameBits 10000 (Mo.v f) (Mo.v f)=true:=by
 have h:=jho 9999 f;simp only[Nat.reduceAdd] at h;exact h
theorem ji6 {h:List TE} (B:MK w lo b h) (v:Mo) (A:FV) (F:Rat) :
  (Instr.mapUpdate 84 (.map (some b)) (Mo.v v) A.v).run prog w=.ok () (putObj w b (.map (Xm (upd A v F h)).toArray (upd A v F h).length)):=by
 unfold Instr.mapUpdate;simp only[Sem.run_bind,run_underlying underlying84,Result.andThen_ok,getObj,Sem.run,B.blk,jck,jau];unfold upd
 cases hp:place v h 0 with
 | none =>
  simp only[Option.map_none,setObj,Sem.run,B.blk];rw[jkn,List.length_append]
  simp[putObj,ent]
 | some p =>
  obtain⟨-,f,C⟩:=X3 hp;rw[Nat.sub_zero] at f;have D:=(List.getElem?_eq_some_iff.1 f).1
  have e1:(Xm h).toArray[p.1]?=some (ent (p.2,p.1)):=by rw[List.getElem?_toArray,Za,f];rfl
  simp only[Option.map_some,e1,Option.getD_some,Instr.keyThatStays];rw[show(ent (p.2,p.1)).key=Mo.v v by rw[<- C];rfl,jko];rw[ents_set,List.length_set];simp[Sem.run_bind,Sem.run,setObj,B.blk,putObj]
  have e2:((Xm h).modify p.1 λe=>{ key:=Mo.v v,val:=A.v,born:=e.born })=(Xm h).set p.1 (ent ((⟨A,v⟩,F),p.1)):=by
   apply List.ext_getElem?;intro j;rw[List.getElem?_modify,List.getElem?_set,Za,jat];by_cases s:p.1=j
   ·subst s;rw[f,if_pos rfl,if_pos D];simp[ent]
   ·rw[if_neg s]
    cases h[j]? <;> simp[s]
  rw[<- e2]
theorem upd_tm (D:FV) (v:Mo) (B:Rat) {s:List TE} {h:Nat × TE} (f:place v s 0=some h):(upd D v (h.2.2+B) s).map tm=YJ v B (s.map tm):=by
 unfold upd;rw[f]
 have C:∀ (s:List TE) (i:Nat) (h:Nat × TE),place v s i=some h->(s.set (h.1-i) (⟨D,v⟩,h.2.2+B)).map tm=YJ v B (s.map tm):=by
  intro s
  induction s with
  | nil=>intro i h f;cases f
  | cons e r ih =>
   intro i h f;have F:=f;unfold place at f;split at f
   ·rename_i A;simp only[Option.some.injEq] at f;subst f;show((e :: r).set (i-i) _).map tm=_;rw[Nat.sub_self,List.set_cons_zero,List.map_cons,List.map_cons];unfold YJ;rw[if_pos (show(tm e).1=v from A.symm)]
   ·rename_i A;have H:=X3 f;rw[show h.1-i=(h.1-(i+1))+1 by omega,List.set_cons_succ,List.map_cons,List.map_cons,ih (i+1) h f]
    conv=>rhs;unfold YJ
    rw[if_neg (show ¬(tm e).1=v from λe=>A e.symm)]
 exact C s 0 h f
theorem upd_none (D:FV) (h:Mo) (v:Rat) {f:List TE} (B:place h f 0=none):upd D h v f=f++[(⟨D,h⟩,v)]/\(upd D h v f).map tm=YJ h v (f.map tm):=by
 unfold upd;rw[B];refine⟨rfl,?_⟩;have s:=YA B;clear B;rw[List.map_append]
 induction f with
 | nil=>rfl
 | cons e r ih =>
  rw[List.map_cons,zi,ih λA C=>s A (List.mem_cons_of_mem _ C)]
  conv=>rhs;unfold YJ
  rw[if_neg (show ¬(tm e).1=h from s e (List.mem_cons_self ..))]
theorem Xu {A:Nat} {a:Option Addr} {B:Nat} {o:Nat->Int} (C:Limb.Own A w lo a n B o) (v:∃ p:Addr,a=some p/\p.block=b):∃ f,w.heap[b]?=some (.cells f A (0,0)):=by
 obtain⟨p,rfl,rfl⟩:=v
 rcases C.place with h | ⟨g,f,s,_,hg,_⟩
 ·cases h.1
 ·cases s;exact⟨f,hg⟩
theorem DF.blkc {v:FV} {A:Rat} (s:DF w lo v A) (f:FV.blk v b):∃ h,w.heap[b]?=some (.cells h 128 (0,0)):=by
 rcases f with f | f
 ·exact Xu s.t.own f
 ·exact Xu s.l.own f
theorem DF.putObj {C:FV} {B:Rat} (A:DF w lo C B) {h:Array MapEntry} (s:w.heap[b]?=some (.map h k)) (o:Obj):DF (putObj w b o) lo C B :=
 A.kept λg hg=>Qk w o λe=>by
  obtain⟨v,f⟩:=DF.blkc A hg;rw[e,s] at f
  cases f
theorem MK.Jt {F:List TE} (f:MK w lo b F) {D:TypeId} {I:List Value} (s:Bxs w g D I) (C:128≠D) (H:Nat) (v:Value):MK (w.setCell ⟨g,H,none⟩ v) lo b F :=
 ⟨(Below.heap_setCell _ _ _ _ (λe=>by
  have h:=f.blk;have A:w.heap[g]?=some (.cells I.toArray D (0,0)):=s;rw[show b=g from e,A] at h
  cases h)).trans f.blk,f.ge,λe B=>(f.df e B).Jt s C H v,f.ap,f.keys,f.small⟩
theorem jdv {x:FV} {q:Rat} {L:List TE}:∀ e∈upd x m q L,e∈L\/e=(⟨x,m⟩,q):=by
 intro e f;unfold Pol.upd at f;split at f
 ·exact(List.mem_or_eq_of_mem_set f)
 ·rcases List.mem_append.1 f with f | f
  ·exact Or.inl f
  ·exact Or.inr (List.mem_singleton.1 f)
theorem MK.put {C:List TE} (B:MK w lo b C) {F:FV} {J:Rat} (Y:DF w lo F J) (s:∀ e∈C,FV.apart e.1.c F) (X:m.Small) :
  MK (putObj w b (.map (Xm (upd F m J C)).toArray (upd F m J C).length)) lo b (upd F m J C):=by
 have A:=jdv (x:=F) (m:=m) (q:=J) (L:=C);refine⟨QS B.blk,B.ge,λe h=>?_,?_,?_,λe h=>?_⟩
 ·rcases A e h with h | rfl
  ·exact DF.putObj (B.df e h) B.blk _
  ·exact DF.putObj Y B.blk _
 ·unfold Pol.upd;split
  ·rename_i p D;rw[List.pairwise_iff_getElem];intro i j I v M;rw[List.length_set] at I v;have N:=List.pairwise_iff_getElem.1 B.ap i j I v M;rw[List.getElem_set,List.getElem_set];split
   ·split
    ·omega
    ·exact FV.apart.symm (s _ (List.getElem_mem v))
   ·split
    ·exact s _ (List.getElem_mem I)
    ·exact N
  ·refine List.pairwise_append.2 ⟨B.ap,List.pairwise_singleton _ _,λe h f U=>?_⟩;rw[List.mem_singleton.1 U];exact s e h
 ·unfold Pol.upd;split
  ·rename_i p D;obtain⟨-,H,O⟩:=X3 D;rw[Nat.sub_zero] at H
   have e1:((C.set p.1 (⟨F,m⟩,J)).map λe=>e.1.m)=C.map λe=>e.1.m:=by
    apply List.ext_getElem?;intro j;rw[List.getElem?_map,List.getElem?_map,List.getElem?_set];split
    ·rename_i v;subst v;have V:=(List.getElem?_eq_some_iff.1 H).1;rw[if_pos V,H];show some m=some p.2.1.m;rw[O]
    ·rfl
   rw[e1];exact B.keys
  ·rename_i D;rw[List.map_append];refine List.nodup_append.2 ⟨B.keys,by simp,λa R c S=>?_⟩;obtain⟨e,h,rfl⟩:=List.mem_map.1 R
   have:c=m:=by simpa using S
   rw[this];exact YA D e h
 ·rcases A e h with h | rfl
  ·exact B.small e h
  ·exact X
def Only (b:Nat) (w w':World):Prop:=w'.os=w.os/\w'.tape=w.tape/\w'.output=w.output/\w.heap.size<=w'.heap.size/\∀ k,k<w.heap.size->k≠b->w'.heap[k]?=w.heap[k]?
theorem Only.of_below (f:Bl w w'):Only b w w':=⟨f.os,f.tape,f.output,f.size,λk h _=>f.block k h⟩
theorem Only.trans {v:World} (f:Only b u v) (h:Only b v w):Only b u w :=
 ⟨h.1.trans f.1,h.2.1.trans f.2.1,h.2.2.1.trans f.2.2.1,zm f.2.2.2.1 h.2.2.2.1,λk A s=>(h.2.2.2.2 k (Nat.lt_of_lt_of_le A f.2.2.2.1) s).trans (f.2.2.2.2 k A s)⟩
theorem Only.put (f:Only b u w) (o:Obj):Only b u (putObj w b o) :=
 ⟨f.1,f.2.1,f.2.2.1,by rw[Xe];exact f.2.2.2.1,λk s h=>(Qk w o h).trans (f.2.2.2.2 k s h)⟩
theorem Only.below {h:Nat} (f:Only b u w) (v:h<=b) (s:h<=u.heap.size):Below h u w:=⟨f.1,f.2.1,f.2.2.1,f.2.2.2.1,λk A=>f.2.2.2.2 k Zo Zo⟩
theorem jhp (b lo:Nat) (L:List TE) (x:FV) (q:Rat) (v:Mo) (I:World) (hM:MK I lo b L) (hx:DF I lo x q) (af:∀ e∈L,FV.apart e.1.c x) (hs:v.Small) (hq:LQ q 900000) (hL:∀ e∈L,LQ e.2 900000) (ag:lo<=I.heap.size) :
  Cl 39 #[.map (some b),x.v,Mo.v v] I λe w'=>e=.returned (.tuple #[])/\(∃ L',MK w' lo b L'/\L'.map tm=YJ v q (L.map tm)/\∀ e∈L',e∈L\/e.1.c=x\/DF w' I.heap.size e.1.c e.2)/\Only b I w':=by
 have HM:=qh hM;have HX:=qh hx;have aj:=qh af;have HS:=qh hs;have HQ:=qh hq;have HL:=qh hL;have ak:=qh ag;obtain⟨W,hW⟩:=gn ((I.alloc (.cells (cFv x).toArray 32)).alloc (.cells #[.int .u16 v.x,.int .u16 v.y,.int .u16 v.z,.int .u16 v.t] 35));have X:=bq hW ((zk.alloc zj _).alloc (by go_size) _);have s:=qh X;have B4:=qh<|bz hW ((Bxs.new I 32 (cFv x)).alloc _)
 have h:=qh (show Bxs W (I.heap.size+1) 35 [.int .u16 v.x,.int .u16 v.y,.int .u16 v.z,.int .u16 v.t] by
  have ai:=Bxs.new (I.alloc (.cells (cFv x).toArray 32)) 35 [.int .u16 v.x,.int .u16 v.y,.int .u16 v.z,.int .u16 v.t];rw[World.size_alloc] at ai;rw[hW]
  exact ai)
 have Y:=qh<|HM.o.below X;have ac:=qh<|HX.o.below X;have HW:=qh hW;have lk:=run_look Y.o v;clear hM hx af hs hq hL ag hW X;obtain⟨pl,ab⟩:=gn (place v L 0);rw[<- ab] at lk;have aa:=qh ab.symm;clear ab;go_enter func39,ntmps39
 go_upto_region 1 with (fail)
 rw[<- HW.o];obtain⟨O,R,S,U,ad,ae⟩:=h.o.d4
 cases pl with
 | none =>
  simp only at lk
  go_upto_region 2 with (fail)
  obtain⟨aA,H⟩:=gn (W.alloc (.cells zFv.toArray 32));have f:=bq H (zk.alloc zj _);rw[<- H];have B4:=qh<|B4.o.bl f;have h:=qh<|h.o.bl f;have A:=qh<|Y.o.below f;have N:=qh<|ac.o.below f;have s:=qk s f;have up:=ji6 A.o v x q;clear H f lk O R S U ad ae;obtain⟨O,R,S,U⟩:=h.o.c4;obtain⟨B,C,D,F⟩:=B4.o.c4;go_wp2_with fail
  go_end0
  exact⟨rfl,⟨_,A.o.put N.o aj.o HS.o,(upd_none x v q aa.o).2,λe he=>(jdv e he).imp id λai=>Or.inl (by rw[ai])⟩,(Only.of_below s.o).put _⟩
 | some p =>
  simp only at lk
  go_upto_region 2 with (fail)
  obtain⟨aA,H⟩:=gn (W.alloc (.cells (cFv p.2.1.c).toArray 32));have f:=bq H (zk.alloc zj _);have B6:=qh<|al H;rw[<- H];have B4:=qh<|B4.o.bl f;have h:=qh<|h.o.bl f;have A:=qh<|Y.o.below f;have N:=qh<|ac.o.below f;have s:=qk s f;clear H f lk O R S U ad ae;obtain⟨-,ah,-⟩:=X3 aa.o;have M:p.2∈L:=List.mem_of_getElem? ah;have HP:=qh<|A.o.df _ M;have an:=qh<|HL.o _ M;clear ah M;obtain⟨B,C,D,F⟩:=B4.o.c4;obtain⟨au,av,aw,ax⟩:=B6.o.c4;go_wp2_with fail
  with_reducible refine(qadd HP.o.k.any (HP.o.k.len an.o zj) N.o.k.any (N.o.k.len HQ.o zj)).mono ?_
  rintro e w2 ⟨y,rfl,hy,hb⟩;clear B C D F au av aw ax;have B4:=qh<|B4.o.bl hb;have h:=qh<|h.o.bl hb;have am:=qh<|A.o.below hb;have ao:=qh (show ∀ e∈L,FV.apart e.1.c y from λe he g hg ay=>Nat.not_lt_of_le (hy.QV g ay).1 ((A.o.df e he).QV g hg).2);have HY:=qh (hy.mono s.o.size:DF w2 I.heap.size y (p.2.2+q));have s:=qk s hb;clear hy hb;obtain⟨B,C,D,F,aq,ar⟩:=B4.o.d4
  go_upto_region 4 with (fail)
  clear B C D F aq ar;obtain⟨az,J⟩:=gn ((((w2.setCell ⟨I.heap.size,0,none⟩ (.bool y.t.s)).setCell ⟨I.heap.size,1,none⟩ (.slice y.t.a y.t.n y.t.c)).setCell ⟨I.heap.size,2,none⟩ (.bool y.l.s)).setCell ⟨I.heap.size,3,none⟩ (.slice y.l.a y.l.n y.l.c));rw[<- J];have V:=B4.o;have b1:=V.put 0 (.bool y.t.s);have b2:=b1.put 1 (.slice y.t.a y.t.n y.t.c);have b3:=b2.put 2 (.bool y.l.s);have b4:=b3.put 3 (.slice y.l.a y.l.n y.l.c);have B4:=qh<|bz J b4;have Z:=qh (show MK az lo b L by rw[J];exact(((am.o.Jt V Ze 0 _).Jt b1 Ze 1 _).Jt b2 Ze 2 _).Jt b3 Ze 3 _);have HY:=qh (show DF az I.heap.size y (p.2.2+q) by rw[J];exact(((HY.o.Jt V Ze 0 _).Jt b1 Ze 1 _).Jt b2 Ze 2 _).Jt b3 Ze 3 _);have h:=qh<|bz J ((((h.o.oz).oz).oz).oz);have s:=qh<|bq J ((((s.o.setCell zj _).setCell zj _).setCell zj _).setCell zj _);have up:=ji6 Z.o v y (p.2.2+q);clear J V b1 b2 b3 b4;obtain⟨O,R,S,U⟩:=h.o.c4;obtain⟨B,C,D,F⟩:=B4.o.c4;go_wp2_with fail
  go_end0;exact⟨rfl,⟨_,Z.o.put (HY.o.mono ak.o) ao.o HS.o,upd_tm y v q aa.o,λe he=>(jdv e he).imp id λai=>Or.inr (by rw[ai];exact DF.putObj HY.o Z.o.blk _)⟩,(Only.of_below s.o).put _⟩
theorem Vu (b f:Nat) (v:List TE) (F:FV) (D:Rat) (C:Mo) (s:World) (O:MK s f b v) (U:DF s f F D) (A:∀ e∈v,FV.apart e.1.c F) (S:C.Small) (R:LQ D 900000) (N:∀ e∈v,LQ e.2 900000) (B:f<=s.heap.size) :
  Cl 39 #[.map (some b),F.v,Mo.v C] s λe w'=>e=.returned (.tuple #[])/\(∃ h,MK w' f b h/\h.map tm=YJ C D (v.map tm))/\Only b s w' :=
 (jhp b f v F D C s O U A S R N B).mono λ_ _ ⟨H,⟨h,I,J,_⟩,M⟩=>⟨H,⟨h,I,J⟩,M⟩
open Go.ChangeShapes Go.WideShapes Go.ChangeAt
def RawQ (w:World) (x:PV) (L:List TO):Prop:=RT w x.a (L.map Prod.fst)/\L.length=x.n/\x.n<=x.c/\(∀ e∈L,TO.ok w e)/\(∀ e∈L,e.1.m.Small)
theorem jcl:prog.cellsOf 37=8:=by kernel_rfl
theorem jcm:prog.cellsOf 35=4:=by kernel_rfl
theorem cellsU16:prog.cellsOf 33=1:=by kernel_rfl
theorem Vf {α:Type} {Φ:Nat->α->Prop}:∀ (n:Nat),(∀ i,i<n->∃ e,Φ i e)->∃ L:List α,L.length=n/\∀ i e,L[i]?=some e->Φ i e
 | 0,_=>⟨[],rfl,λi e v=>by simp at v⟩
 | n+1,v=>by
  obtain⟨L,h,A⟩:=Vf n λi f=>v i Zo
  obtain⟨e,B⟩:=v n Zo;refine⟨L++[e],by rw[List.length_append,h];rfl,λi s f=>?_⟩;by_cases C:i<n
  ·rw[List.getElem?_append_left Zo] at f;exact A i s f
  ·have:i=n:=by
    have:=(List.getElem?_eq_some_iff.1 f).1;rw[List.length_append,h] at this;simp at this;omega
   subst this;rw[List.getElem?_append_right Zo,h,Nat.sub_self] at f;have f:some e=some s:=f;exact(Option.some.inj f)▸B
theorem jhq {ab:Type} {H:TypeId × Value->ab} {W:World} {Y:Nat->Bool} {X:Bool} {S:Nat} {l:List Value} {x:DataW ab × List MemPlace}
  (hf:DataW.trod H prog W 0 Y X S 37 l=some x):∃ e:TO,l=e.1.cells/\TO.ok W e/\e.1.m.Small:=by
 obtain⟨Z,m,_,_,f,aa,I⟩:=DataW.trod_struct underlying37 hf;have f:l.length=8:=f.trans jcl
 obtain⟨h,s,v,A,B,C,D,F,rfl⟩:∃ h s v A B C D F,l=[h,s,v,A,B,C,D,F]:=by
  match l,f with
  | [h,s,v,A,B,C,D,F],_=>exact⟨h,s,v,A,B,C,D,F,rfl⟩
 have U:DataW.trod H prog W 0 Y X m 32 (([h,s,v,A,B,C,D,F].drop 0).take (prog.cellsOf 32))=Z[0]?:=I 0 _ rfl;have V:DataW.trod H prog W 0 Y X m 35 (([h,s,v,A,B,C,D,F].drop 4).take (prog.cellsOf 35))=Z[1]?:=I 1 _ rfl;have hx:Z.length=2:=aa;rw[List.getElem?_eq_getElem Zo] at U;rw[List.getElem?_eq_getElem Zo] at V;rw[jcf] at U;rw[jcm] at V;obtain⟨J,a1,n1,c1,o1,M,a2,n2,c2,o2,N,r1,l1,r2,l2⟩:=jhd U;obtain⟨a,e1,O⟩:=LawPost.four_u16 underlying35 underlying33 cellsU16 jcm V;have N:[h,s,v,A]=[.bool J,.slice a1 n1 c1,.bool M,.slice a2 n2 c2]:=N;have e1:[B,C,D,F]=[.int .u16 (a 0),.int .u16 (a 1),.int .u16 (a 2),.int .u16 (a 3)]:=e1;simp only[List.cons.injEq,and_true] at N e1;obtain⟨rfl,rfl,rfl,rfl⟩:=N;obtain⟨rfl,rfl,rfl,rfl⟩:=e1;have b0:=O 0 Zo;have b1:=O 1 Zo;have b2:=O 2 Zo;have b3:=O 3 Zo;refine⟨(⟨⟨⟨J,a1,n1,c1⟩,⟨M,a2,n2,c2⟩⟩,⟨(a 0).toNat,(a 1).toNat,(a 2).toNat,(a 3).toNat⟩⟩,open Classical in if okF J n1 o1 M n2 o2 then some (Xv J n1 o1 M n2 o2) else none),?_,?_,?_⟩
 ·unfold TV.cells;simp only[Int.toNat_of_nonneg b0.1,Int.toNat_of_nonneg b1.1,Int.toNat_of_nonneg b2.1,Int.toNat_of_nonneg b3.1]
 ·by_cases R:okF J n1 o1 M n2 o2
  ·simp only[if_pos R];exact KF.raw r1 l1 r2 l2 R
  ·simp only[if_neg R];exact BF.raw r1 l1 r2 l2 R
 ·exact⟨by show(a 0).toNat<=65535;omega,by show(a 1).toNat<=65535;omega,by show(a 2).toNat<=65535;omega,by show(a 3).toNat<=65535;omega⟩
theorem Y2 {v:World} {a:Addr} {A:List Value} (h:v.cells? 0 a n=some A) (f:Nat) (s:f<n):v.cell? (a.add f)=A[f]?:=by
 unfold World.cells? at h;rw[if_pos (Nat.zero_le _)] at h;exact mapM_some_get h f f (by rw[List.getElem?_range s])
theorem jhr {aa:Type} {N:TypeId × Value->aa} {V:World} {sp:Nat->Bool} {hd:Bool} {F:Nat} {v:Value} {x:DataW aa × List MemPlace}
  (hf:DataW.trod N prog V 0 sp hd F 23 [v]=some x):∃ (y:PV) (L:List TO),v=y.v/\RawQ V y L:=by
 rcases DataW.trod_slice underlying23 hf with ⟨e,_⟩ | ⟨a,len,M,X,rest,m,_,e,_,_,hl,_,ab,R,_⟩
 ·simp only[List.cons.injEq,and_true] at e;exact⟨⟨none,0,0⟩,[],e,RT.nil _ _,rfl,zj,λe f=>(by cases f),λe f=>(by cases f)⟩
 ·simp only[List.cons.injEq,and_true] at e
  obtain⟨L,O,s⟩:=Vf (Φ:=λi (e:TO)=>V.cells? 0 (a.add (i*8)) 8=some e.1.cells/\TO.ok V e/\e.1.m.Small) len λi h=>by
   have B:=R i h;rw[jcl,List.getElem?_eq_getElem Zo] at B;obtain⟨l,H,A⟩:=Option.bind_eq_some_iff.1 B;obtain⟨e,C,Y,Z⟩:=jhq A;exact⟨e,by rw[H,C],Y,Z⟩
  refine⟨⟨some a,len,M⟩,L,e,⟨λhn=>?_⟩,O,hl,λe f=>?_,λe f=>?_⟩
  ·have I:0<L.length:=List.length_pos_iff.2 λac=>hn (by rw[ac];rfl)
   obtain⟨B,-,-⟩:=s 0 _ (List.getElem?_eq_getElem I);have H:=Y2 B 0 Zo;obtain⟨b,off,J⟩:=a
   have D:J=none:=by
    have A:=World.cell?_spot (H.trans rfl)
    simpa[Addr.add] using A
   subst D;refine⟨b,off,rfl,λi t h j v S=>?_⟩;rw[List.getElem?_map] at h;obtain⟨e,f,rfl⟩:=Option.map_eq_some_iff.1 h;obtain⟨A,-,-⟩:=s i e f;have U:j<8:=(List.getElem?_eq_some_iff.1 S).1;have C:=Y2 A j U;rw[Go.WideShapes.add_plain,Go.WideShapes.add_plain] at C;exact C.trans S
  ·obtain⟨i,h⟩:=List.mem_iff_getElem?.1 f;exact(s i e h).2.1
  ·obtain⟨i,h⟩:=List.mem_iff_getElem?.1 f;exact(s i e h).2.2
theorem RawQ.raw {v:PV} {h:List TO} (f:RawQ w v h) (s:∀ e∈h,LF e.1.c 900000):jcj w v h:=⟨f.1,f.2.1,f.2.2.1,f.2.2.2.1,f.2.2.2.2,s⟩
end Pol
namespace Pol
open Limb
variable {P Q:List Tm}
theorem YB {A:Tm} {r:List Tm} (B:Canon r) (h:A.2≠0) (f:∀ v∈r,v.1.lt A.1):Canon (A :: r):=⟨List.pairwise_cons.2 ⟨f,B.falls⟩,λv s=>(List.mem_cons.1 s).elim (λe=>e▸h) (B.non v)⟩
theorem ji7 {a b:Rat} (f:a≠0) (h:b≠0):a*b≠0:=λe=>f (by
 have s:=Rat.mul_div_cancel (a:=a) h;rw[e,Rat.div_def,Rat.zero_mul] at s
 exact s.symm)
theorem ja6 {A:Rat} (f:Canon P) (h:A≠0):Canon (JZ A P):=⟨List.pairwise_map.2 f.falls,λt v=>by
 obtain⟨B,s,rfl⟩:=List.mem_map.1 v
 exact ji7 (f.non B s) h⟩
theorem Ka {f:Rat} (h:Canon P) (s:f≠0):Qt f P=JZ f P:=jit (ja6 h s)
theorem Zj (h:List Tm):Qt 0 h=[]:=Qc (QY _ _) Canon.nil λf=>by rw[ZM,Xy,Rat.zero_mul]
theorem jkp (h:Canon P):Qv P []=P:=Qc (JL _ _) h λf=>by rw[QU,Xy,Rat.add_zero]
theorem jf3 {A:Tm} (s:Canon (A :: P)) (D:∀ C∈Q,C.1.lt A.1):Qv (A :: P) Q=A :: Qv P Q :=
 Qc (JL _ _) (YB (JL _ _) (s.non A (List.mem_cons_self ..)) λC B=>by
  rcases Vd B with ⟨v,h,e⟩ | ⟨v,h,e⟩
  ·rw[<- e];exact s.head v h
  ·rw[<- e]
   exact D v h) λf=>by rw[QU,Jq,Jq,QU];grind
theorem merge_lt {A:Tm} (s:Canon (A :: Q)) (D:∀ C∈P,C.1.lt A.1):Qv P (A :: Q)=A :: Qv P Q :=
 Qc (JL _ _) (YB (JL _ _) (s.non A (List.mem_cons_self ..)) λC B=>by
  rcases Vd B with ⟨v,h,e⟩ | ⟨v,h,e⟩
  ·rw[<- e];exact D v h
  ·rw[<- e]
   exact s.head v h) λf=>by rw[QU,Jq,Jq,QU];grind
theorem ji8 {s:Tm} {B:Mo} (h:Canon (s :: Q)) (A:s.1.lt B):∀ v∈s :: Q,v.1.lt B:=λv f=>by
 rcases List.mem_cons.1 f with rfl | f
 ·exact A
 ·exact Mo.lt_trans (h.head v f) A
theorem merge_eq {s A:Tm} (B:Canon (s :: P)) (C:Canon (A :: Q)) (e:s.1=A.1) (F:s.2+A.2≠0):Qv (s :: P) (A :: Q)=(s.1,s.2+A.2) :: Qv P Q :=
 Qc (JL _ _) (YB (JL _ _) F λH D=>by
  rcases Vd D with ⟨v,h,e2⟩ | ⟨v,h,e2⟩
  ·rw[<- e2];exact B.head v h
  ·rw[<- e2];show v.1.lt s.1;rw[e]
   exact C.head v h) λf=>by rw[QU,Jq,Jq,Jq,QU,e];grind
theorem jkq {s h:Tm} (e:s.1=h.1) (v:s.2+h.2=0):Qv (s :: P) (h :: Q)=Qv P Q :=
 Qc (JL _ _) (JL _ _) λf=>by
  rw[QU,Jq,Jq,QU,e]
  have A:s.2*f h.1+h.2*f h.1=0:=by rw[<- Rat.add_mul,v,Rat.zero_mul]
  grind
theorem lt_mul {a b f:Mo} (h:a.lt b):(a.mul f).lt (b.mul f):=by
 unfold Mo.lt at h ⊢;simp only[Mo.mul];omega
theorem ev_times (h:List Tm) (v:Mo) (s:Rat) (f:Mo->Rat):ev (h.map λt=>(t.1.mul v,t.2*s)) f=ev h (λa=>s*f (a.mul v)):=by
 induction h with
 | nil=>rfl
 | cons t r ih =>
  rw[List.map_cons,Jq,Jq,ih];grind
theorem jer {C:Mo} {A:Rat} (f:Canon P) (h:A≠0):Canon (P.map λt=>(t.1.mul C,t.2*A)):=⟨List.pairwise_map.2 (f.falls.imp λB=>lt_mul B),λt v=>by
 obtain⟨D,s,rfl⟩:=List.mem_map.1 v
 exact ji7 (f.non D s) h⟩
theorem jkr {m:Mo} {h:Rat} (s:Canon P) (v:h≠0):Ql P [(m,h)]=P.map λt=>(t.1.mul m,t.2*h):=Qc (Qh _ _) (jer s v) λf=>by
 rw[Yk,ev_times];refine congrArg (ev P) (funext λa=>?_);rw[Jq,Xy,Rat.add_zero]

end Pol
end Go.Proofs.YthacfgmdihcffaaGreatDoor
