/-
  The walk of lowest of fracs: lowest terms.
-/
import Derived.Test.YthacfgmdihcffaaGreatDoorPzTH
import Derived.RangeFuncBox
import Derived.RangeFuncLeaves
import Derived.RangeFuncFrom
import Derived.Shelf.Abstract
import Derived.OwnWalkIn
import Derived.TacticsInMore
import Derived.LoopNIn
import Derived.LoopIn
set_option linter.unusedSimpArgs false
set_option linter.unusedVariables false
set_option maxHeartbeats 16000000
set_option maxRecDepth 100000
open Go.Proofs.Tryz
namespace Go.Proofs.YthacfgmdihcffaaGreatDoor
namespace Limb
open Go.RowKit Go.Sort Go.Shelf
attribute [local go_sem] Oper.semAt_some
def down (n k:Nat):List Nat:=(List.range k).map λj=>n-1-j
theorem jcd (n k:Nat):down n (k+1)=down n k++[n-1-k]:=by simp[down,List.range_succ]
theorem jeo (n k:Nat):(down n k).length=k:=by simp[down]
def gather (M:Nat) (l:List Nat):Int:=l.foldl (λh x=>h*1000000000-dgi M x) 0
theorem VO (a:Nat) (b:List Nat) (c:Nat):gather a (b++[c])=gather a b*1000000000-dgi a c:=by simp[gather]
theorem jep (b n:Nat) (f:b<pw n):∀ k,k<=n->gather b (down n k) = -((b/pw (n-k):Nat):Int):=by
 intro k
 induction k with
 | zero=>intro _;rw[Nat.sub_zero,Nat.div_eq_of_lt f];rfl
 | succ k ih =>
  intro g;rw[jcd,VO,ih Zo];obtain⟨a,d⟩:∃ a,n-(k+1)=a:=⟨_,rfl⟩;rw[d,show n-k=a+1 by omega,show n-1-k=a by omega]
  have e:b/pw (a+1)=b/pw a/1000000000:=by rw[JR,Nat.div_div_eq_div_mul]
  have c:dgi b a=((b/pw a%1000000000:Nat):Int):=rfl;rw[e,c];omega
theorem jhc (a n:Nat) (b:a<pw n):gather a (down n n) = -(a:Int):=by
 rw[jep a n b n zj,Nat.sub_self,Qj,Nat.div_one]
def KpB (n₀ Bs:Nat) (A B:World):Prop:=Below n₀ A B/\B.heap[Bs]?=A.heap[Bs]?
theorem KpB.refl (a b:Nat) (c:World):KpB a b c c:=⟨zk,rfl⟩
theorem KpB.trans {a b:Nat} {c d f:World} (g:KpB a b c d) (k:KpB a b d f):KpB a b c f:=⟨g.1.trans k.1,k.2.trans g.2⟩
theorem KpB.back {a b:Nat} {l:World} (k:a<=l.heap.size) (p:b<l.heap.size) (c:World) (f:Nat) (o d:Obj) (j:l.heap.size<=f) (m:c.heap[f]?=some o) (h:o.isCells=false) (i:o.isWalk=false):KpB a b c (c.putObj f d):=by
 refine⟨belowK_b k c f o d j m h i,?_⟩;have hg:=grownBy_putObj' c f d;by_cases g:b<c.heap.size
 ·exact hg.block b g (λe=>by cases e;omega)
 ·have n:f<c.heap.size:=(Array.getElem?_eq_some_iff.1 m).1;omega
theorem bwd_any (a:Option Addr) (n d:Nat) (b:World) :
  Cl 246 #[.slice a n d] b λe c=>e=.returned (.func (.func 255) #[] #[.pointer (some ⟨b.heap.size,0,none⟩)])/\c=b.alloc (.cells #[.slice a n d] 28):=by
 go_enter func246,ntmps246;go_wp2;go_ret;exact⟨rfl,rfl⟩
theorem bwd1_in (E:Fence) (N:Nat) (L:E.fn 255) (B:E.round=none) (X:1<=N) (T f d G n h:Nat) (a:Option Addr) (Y:n<=1000000000) (u w:List Nat->World->Prop)
  (J:∀ c (F:Nat) l,u c l->c.length<n->YieldAt E (N-1) prog T #[.int .i64 (F:Int),.int .u32 (dgi G F)] l λe g =>
   (e=.returned (.bool true)/\u (c++[F]) g/\KpB d f l g)\/(e=.returned (.bool false)/\w (c++[F]) g))
  (l:World) (o:l.rowIs f 28 1 (λ_=>.slice a n h)) (I:Rd l a n (dgi G)) (y:∀ O,a=some O->0<n->O.block<d) (H:u [] l) :
  CallsIn E N prog 255 #[.func (.yield T) #[] #[],.pointer (some ⟨f,0,none⟩)] l λe g=>(∃ v,e=.returned v) /\
   ((∃ D,D=down n n/\u D g)\/(∃ c,(∃ k,k<=n/\c=down n k)/\w c g)):=by
 have K:l.cell? ⟨f,0,none⟩=some (.slice a n h):=o.cell (i:=0) Zo;refine callsIn_of_wp func255 rfl L ?_ B;simp only[ntmps255,List.size_toArray,List.length_cons,List.length_nil,Nat.reduceAdd,Nat.reduceSub,Array.replicate_succ,Array.replicate_zero,List.push_toArray,List.append_toArray,ze,zi]
 gi_wp2
 gi_loopw [3] (λC wr=>∃ k:Nat,k<=n/\C=.int .i64 ((n:Int)-1-k)/\u (down n k) wr/\KpB d f l wr)
  (λC _=>(intOf C+1).toNat)
 case atStart=>exact⟨0,Nat.zero_le _,by simp,H,KpB.refl _ _ _⟩
 case round =>
  obtain⟨k,W,rfl,p,j⟩:=hrel;have Q:wr.cell? ⟨f,0,none⟩=some (.slice a n h):=(o.of_block j.2).cell (i:=0) Zo;by_cases A:k<n
  ·obtain⟨b,off,rfl,r⟩:=I.cells Zo;obtain⟨m,M⟩:∃ m,n-1-k=m:=⟨_,rfl⟩;have R:wr.cell? ⟨b,off+m,none⟩=some (.int .u32 (dgi G m)):=(j.1.cell (p:=⟨b,off+m,none⟩) (y ⟨b,off,none⟩ rfl Zo)).trans (r m Zo);obtain⟨V,P,assign,body,Z,q⟩:=J _ m wr p (by rw[jeo];exact A);have i:((n:Int)-1-(k:Int))=(m:Int):=Zo;have S:(m:Int)<(n:Int):=Zo
   have s:down n k++[m]=down n (k+1):=by rw[jcd,M]
   rw[s] at q;rw[i];clear r s
   gi_wp2
   refine q.mono ?_;rintro e U (⟨rfl,x,z⟩ | ⟨rfl,t⟩)
   ·gi_wp2
    go_roundw
    case rel=>exact⟨k+1,Zo,by congr 1;omega,x,j.trans z⟩
    case measure=>first | (simp[intOf];omega) | (simp[intOf];done)
   ·gi_wp2
    refine bodyPost_ret (results_none rfl _ _ _) rfl ?_;exact⟨⟨_,rfl⟩,.inr ⟨_,⟨k+1,Zo,rfl⟩,t⟩⟩
  ·obtain rfl:k=n:=Zo;have i:((k:Int)-1-(k:Int)) = -1:=Zo;rw[i]
   gi_wp2
   go_end0;exact⟨⟨_,rfl⟩,.inl ⟨_,rfl,p⟩⟩
theorem jj9 (l:Fence) (x:Nat) (u:l.fn 255) (i:l.round=none) (v:1<=x) (c b q n d:Nat) (a:Option Addr) (w:n<=1000000000) (o:World) (m:b<=o.heap.size)
  (h:o.rowIs c 28 1 (λ_=>.slice a n d)) (s:Rd o a n (dgi q)) (f:∀ z,a=some z->0<n->z.block<b) :
  SeqStopsK l x prog 255 #[.pointer (some ⟨c,0,none⟩)] (λA:Nat=>#[Value.int .i64 (A:Int),Value.int .u32 (dgi q A)]) (KpB b c) (λy=>y=down n n) (λj=>∃ k,k<=n/\j=down n k) n o:=λD B p C g _ _ t r =>
 bwd1_in l x u i v D c b q n d a w B p t C (h.of_block (g.block _ h.lt)) (s.below g) f r
open Go.FreshH
attribute [local go_sem] Oper.semAt_some
theorem of_min:∃ a:Int,a = -9223372036854775808/\∀ b,Cl 106 #[.int .i64 (-9223372036854775808)] b (VJ b a):=⟨_,rfl,λb=>X7 _ b Zo Zo⟩
theorem of_max:∃ a:Int,a=9223372036854775807/\∀ b,Cl 106 #[.int .i64 9223372036854775807] b (VJ b a):=⟨_,rfl,λb=>X7 _ b Zo Zo⟩
theorem jiy (z b:Int) (a:Option Addr) (j:Nat) (c:Option Addr) (c2:Nat) (i:World) (k:Rd i a (Ja z.natAbs) (dgi z.natAbs)) (g:Ja z.natAbs<=100000000) (d:Ja z.natAbs<=j) (l:Rd i c (Ja b.natAbs) (dgi b.natAbs)) (h:Ja b.natAbs<=100000000) (f:Ja b.natAbs<=c2) :
  Cl 210 #[Jv (decide (z<0)) a (Ja z.natAbs) j,Jv (decide (b<0)) c (Ja b.natAbs) c2] i λe m=>e=.returned (.int .i64 (Js z b))/\Bl i m:=by
 have n:=Y7 (decide (z<0)) a (Ja z.natAbs) j (dgi z.natAbs) (decide (b<0)) c (Ja b.natAbs) c2 (dgi b.natAbs) i k g d l h f;rw[Jl,Jl] at n;exact n
theorem jka (b a:Int):wrap64 (wrap64 (wrap64 b*1000000000)-a)=wrap64 (b*1000000000-a):=by
 unfold wrap64;omega
theorem wrap64_in {a:Int} (b:-9223372036854775808<=a/\a<=9223372036854775807):wrap64 a=a:=by
 unfold wrap64;omega
theorem jdo (c:World) (v:Value) (b:TypeId):(c.alloc (.cells #[v] b)).rowIs c.heap.size b 1 (λ_=>v):=World.rowIs_alloc c #[v] b (λ_=>v) (λd a=>by
 match d,a with
 | 0,_=>rfl)
theorem X8 {T L b:Nat} {s:Bool} {a:Option Addr} {o:Nat->Int} {f:World} (g:∃ d:Option Addr,Jv s a L L=Jv s d L L/\Own T f b d L L o):Own T f b a L L o:=by
 obtain⟨d,e,c⟩:=g;simp only[Jv,Value.agg.injEq,Array.mk.injEq,List.cons.injEq,Value.slice.injEq,and_true,true_and] at e;rw[e];exact c
open Classical in
theorem back_ok (z:Int) (a:Option Addr) (d:Nat) (E:World) (B:Rd E a (Ja z.natAbs) (dgi z.natAbs)) (U:Ja z.natAbs<=d) (h1:-9223372036854775808<=z) (F:z<=9223372036854775807) :
  Cl 226 #[Jv (decide (z<0)) a (Ja z.natAbs) d] E λe c=>e=.returned (.tuple #[.int .i64 z,.int .i64 0])/\Bl E c:=by
 have HZ:=qh<|And.intro h1 F;have aG:Ja z.natAbs<=3:=len3 Zo;obtain⟨h,ay,ac⟩:=of_min;obtain⟨j,az,ad⟩:=of_max;have aH:Ja h.natAbs<=3:=len3 Zo;have aI:Ja j.natAbs<=3:=len3 Zo;have C:∃ ao,Js z h=ao/\decide (ao<0)=false:=⟨_,rfl,zo (by unfold Js;split;omega;split <;> omega)⟩;have v:∃ ao,Js z j=ao/\decide (0<ao)=false:=⟨_,rfl,zo (by unfold Js;split;omega;split <;> omega)⟩;obtain⟨c1,e1,g1⟩:=C;obtain⟨c2,e2,g2⟩:=v;have M:=qh ac;have N:=qh ad;clear h1 F ac ad ay az;have I:=qh (λ(c:World) (f:Bl E c)=>Qw (decide (z<0)) a (Ja z.natAbs) d (dgi z.natAbs) c (B.below f) Zo);rw[decide_eq_true (JY z)] at I;have J:=qh (λ(c:World) (f:Bl E c) (P:Option Addr) (c2:Nat) (F:Rd c P (Ja h.natAbs) (dgi h.natAbs)) (v:Ja h.natAbs<=c2)=>jiy z h a d P c2 c (B.below f) Zo U F Zo v);have K:=qh (λ(c:World) (f:Bl E c) (P:Option Addr) (c2:Nat) (F:Rd c P (Ja j.natAbs) (dgi j.natAbs)) (v:Ja j.natAbs<=c2)=>jiy z j a d P c2 c (B.below f) Zo U F Zo v);rw[e1] at J;rw[e2] at K;have HR:=qh B;have q:=qh<|Bx.new E 30 (.bool (decide (z<0))) (.slice a (Ja z.natAbs) d);clear B e1 e2;refine(callsIn_wide (n:=4)).1 (callsIn_of_wp_marks func226 rfl trivial ?_ rfl);simp only[ntmps226,List.size_toArray,List.length_cons,List.length_nil,Nat.reduceAdd,Nat.reduceSub,Array.replicate_succ,Array.replicate_zero,List.push_toArray,List.append_toArray,ze,zi];refine wpIn_wide.2 ?_;go_wp2_with fail
 refine(I.o _ ?_).mono ?_
 ·exact qg
 rintro e y ⟨rfl,R⟩;have q:=qh<|q.o.bl R;have r:=qh ((zk.alloc (by go_size) _).trans (R.mono (by go_size)):Bl E y);clear R;obtain⟨ae,af,ag,ah⟩:=q.o.all
 go_upto_region 3 with (fail)
 have O:=qh (λ(c:World) (f:Bl y c)=>And.intro (q.o.bl f).c0 (q.o.bl f).c1)
 refine Ji 9 (JI [(1,Sp.made (λH:Option Addr=>Jv (decide (h<0)) H (Ja h.natAbs) (Ja h.natAbs)) (λH c=>Own 128 c y.heap.size H (Ja h.natAbs) (Ja h.natAbs) (dgi h.natAbs))),(2,Sp.know (.int .i64 c1)),
   (6,Sp.made (λH:Option Addr=>Jv (decide (j<0)) H (Ja j.natAbs) (Ja j.natAbs)) (λH c=>Own 128 c y.heap.size H (Ja j.natAbs) (Ja j.natAbs) (dgi j.natAbs))),(7,Sp.know (.int .i64 c2))])
  (λc=>Bl y c) Zk Zk
  (Jb (Sp.Jf λH E c B f=>B.below f) (Jb (Sp.Jk _) (Jb (Sp.Jf λH E c B f=>B.below f) (Jb (Sp.Jk _) Jh)))) (λ_ _ B f=>B.trans (f.mono B.size)) (zk.drew) ?_
 simp only[zx,zy,zv,zw];refine rdw (λc l=>by have x:=O.o _ l;go_simp;try rfl) ?_
 (refine Jc rfl rfl (λc m=>?_) ?_;· (have l:=Has.world m;go_simp;((refine(M.o c).mono ?_;rintro e Y ⟨a,rfl,ho,-,f⟩;exact⟨_,rfl,⟨⟨a,rfl⟩,⟨a,rfl,ho.mono l.size⟩⟩,f⟩))))
 rintro _ ⟨H,rfl⟩
 conv=>arg 10;simp only[Act.put,zq0,zq1,zq2]
 (refine Jc rfl rfl (λc m=>?_) ?_;· (have l:=Has.world m;go_simp;((have h7:=X8 (T:=128) (a:=H) (b:=y.heap.size) (s:=decide (h<0)) (L:=Ja h.natAbs) (o:=dgi h.natAbs) (m.fact 1 Zk);refine(J.o c (r.o.trans (l.mono r.o.size)) H _ h7.rd zj).mono ?_;rintro e Y ⟨rfl,f⟩;exact⟨_,rfl,rfl,f⟩))))
 rintro _ rfl
 conv=>arg 10;simp only[Act.put,zq0,zq1,zq2]
 iterate 2
  refine rd0 ?_
 refine rdg (λc l=>by have x:=O.o _ l;go_simp;try rfl) ?_
 (refine JJ (by rfl) rfl (λc m=>?_) ?_;· (have l:=Has.world m;go_simp;((refine(N.o c).mono ?_;rintro e Y ⟨a,rfl,ho,-,f⟩;exact⟨_,rfl,⟨⟨a,rfl⟩,⟨a,rfl,ho.mono l.size⟩⟩,f⟩))))
 rintro _ ⟨aB,rfl⟩
 conv=>arg 10;simp only[Act.put,zq0,zq1,zq2]
 (refine JJ (by rfl) rfl (λc m=>?_) ?_;· (have l:=Has.world m;go_simp;((have h7:=X8 (T:=128) (a:=aB) (b:=y.heap.size) (s:=decide (j<0)) (L:=Ja j.natAbs) (o:=dgi j.natAbs) (m.fact 6 Zk);refine(K.o c (r.o.trans (l.mono r.o.size)) aB _ h7.rd zj).mono ?_;rintro e Y ⟨rfl,f⟩;exact⟨_,rfl,rfl,f⟩))))
 rintro _ rfl
 conv=>arg 10;simp only[Act.put,zq0,zq1,zq2]
 refine rdz ?_;refine Jn (λg S au=>?_);have aa:=qh<|q.o.bl S;have s:=qh<|r.o.trans (S.mono r.o.size);clear au S O I J K M N ae af ag ah;obtain⟨ae,af,ag,ah⟩:=aa.o.all;go_wp2_with fail
 refine(bwd_any a (Ja z.natAbs) d _).mono ?_;rintro e w ⟨rfl,t⟩
 have an:w.heap.size=g.heap.size+2:=by rw[t];simp
 have ai:=bq t (((Below.refl _ g).alloc zj _).alloc (by simp) _)
 have ak:w.cell? ⟨g.heap.size,0,none⟩=some (.int .i64 0):=by rw[t];exact(((jdo g (.int .i64 0) 2).alloc _).cell (i:=0) Zo)
 have am:w.frozen? ⟨g.heap.size,0,none⟩=false:=by rw[t];exact(((jdo g (.int .i64 0) 2).alloc _).frozen 0)
 have C:w.rowIs (g.heap.size+1) 28 1 (λ_=>.slice a (Ja z.natAbs) d):=by
  rw[t];have:=(jdo (g.alloc (.cells #[.int .i64 0] 2)) (.slice a (Ja z.natAbs) d) 28);rw[World.size_alloc] at this;exact this
 rw[World.size_alloc];clear t;have hM:=JE z.natAbs;have Q:=HR.o.below s.o
 have V:∀ aq,a=some aq->0<Ja z.natAbs->aq.block<g.heap.size:=by
  intro aq hp h0;obtain⟨b,off,av,aw⟩:=Q.cells h0
  rw[av] at hp;cases hp
  exact block_lt_of_cell (aw 0 h0)
 have HH:=qh<|And.intro hM (And.intro Q V);have A:=qh<|And.intro ak (And.intro am C);have p:=qh ai;have ar:=qh an;clear hM Q V ak am C ai an;go_wp2_with fail
 refine(wpIn_wide (n:=4)).1 ?_
 refine wpIn_rangeFunc_ownF rfl Zo (gf:=255) (lb:=#[.pointer (some ⟨g.heap.size+1,0,none⟩)]) rfl trivial (enters_of func255 Zk rfl)
  (jj9 Fence.wide 3 trivial rfl Zo (g.heap.size+1) g.heap.size z.natAbs (Ja z.natAbs) d a Zo w p.o.size A.o.2.2 (HH.o.2.1.below p.o) HH.o.2.2) KpB.trans (KpB.back p.o.size A.o.2.2.lt) zk (λ_=>rfl)
  (λD Z=>(Z.cell? ⟨g.heap.size,0,none⟩=some (.int .i64 (wrap64 (gather z.natAbs D)))/\Z.frozen? ⟨g.heap.size,0,none⟩=false)/\Bl g Z)
  (λ_ _ _=>False)
  (OwnFrom.and (Go.Own.from (λaJ aL aM row x hg hr=>⟨cell_kept x.1 hg hr,(frozen_kept x.1 hg hr).trans x.2⟩) _) (ownFrom_below zj (by rw[ar.o];omega)))
  (λ_ _ _ _ _ x _ _=>x)
  ⟨⟨by rw[show gather z.natAbs []=0 from rfl,wrap64_in Zo];exact A.o.1,A.o.2.1⟩,p.o⟩
  (λk=>{ tmps:=#[Jv (decide (z<0)) a (Ja z.natAbs) d,.pointer (some ⟨E.heap.size,0,none⟩),.int .i64 0,.int .i64 0,.pointer (some ⟨g.heap.size,0,none⟩),undef,.int .u32 (dgi z.natAbs k),.bool false,.agg #[.bool (decide (z<0)),.slice a (Ja z.natAbs) d],.bool true,.bool false,.bool false,.agg #[.bool (decide (z<0)),.slice a (Ja z.natAbs) d],Jv (decide (h<0)) H (Ja h.natAbs) (Ja h.natAbs),.int .i64 c1,.bool false,.bool false,.agg #[.bool (decide (z<0)),.slice a (Ja z.natAbs) d],Jv (decide (j<0)) aB (Ja j.natAbs) (Ja j.natAbs),.int .i64 c2,.bool false,.bool false,.pointer (some ⟨E.heap.size,1,none⟩),.slice a (Ja z.natAbs) d,.func (.func 255) #[] #[.pointer (some ⟨g.heap.size+1,0,none⟩)],.int .i64 (k:Int),.int .u32 (dgi z.natAbs k),undef,undef,undef,undef,undef,undef,undef,undef,undef,undef,undef],defers:=[] }) ?assign ?body ?done ?stop
 case assign =>
  intro aK k Z aN hK
  gi_wp2
  exact hK
 case body =>
  rintro aK D k Z ⟨⟨hc,hf⟩,G⟩ _;have hd:=Jr z.natAbs (k+1) k Zo;have u1:=IntWalk.i64_in (dgi z.natAbs k) Zo;have HB:=qh G;have X:=jka (gather z.natAbs D) (dgi z.natAbs k);rw[<- VO] at X;have HW:=qh X;clear X G
  gi_wp2
  refine⟨KeepsOthers.setCell _ _ _,⟨(Below.refl g.heap.size Z).setCell (p:=⟨g.heap.size,0,none⟩) zj _,Below.heap_setCell _ _ _ _ Zd⟩,⟨?_,by rw[World.frozen?_setCell];exact hf⟩,HB.o.setCell (p:=⟨g.heap.size,0,none⟩) zj _⟩;rw[<- HW.o];exact World.cell?_setCell_same' _ _ _ (by rw[hc];rfl)
 case done =>
  rintro aA ys Z hD rfl ⟨⟨hc,hf⟩,G⟩ hK;rw[jhc _ _ HH.o.1,wrap64_in (Zh HZ)] at hc;have B3:=aa.o.bl G;have ab:=qh<|s.o.trans (G.mono s.o.size);obtain⟨aC,aD,aE,aF⟩:=B3.all;have HD:=qh hD;have HK:=qh hK;clear hD hK G B3;by_cases u:z<0
  ·have ax:decide (z<0)=true:=decide_eq_true u;have W:-(z.natAbs:Int)=z:=Zo;rw[W] at hc;clear u W;go_wp2_with fail
   refine⟨by simp,.inl ⟨_,_,rfl,run_takeDeferred HK.o,?_⟩⟩;exact⟨_,results_tmp2 rfl _ _ _,rfl,ab.o.trans (belowK_b (w:=w) (zm s.o.size p.o.size) _ aA _ _ HD.o HK.o rfl rfl)⟩
  ·have ax:decide (z<0)=false:=zo u;have EW:=qh (show wrap64 (z.natAbs:Int)=z by rw[wrap64_in (Zh HZ)];omega);clear u;go_wp2_with fail
   have aj:=(KeepsOthers.setCell Z ⟨g.heap.size,0,none⟩ (.int .i64 (wrap64 (z.natAbs:Int)))).same aA _ HK.o rfl;refine⟨by simp,.inl ⟨_,_,rfl,run_takeDeferred aj,?_⟩⟩;exact⟨_,results_tmp2 rfl _ _ _,by rw[EW.o];rfl,(ab.o.setCell (p:=⟨g.heap.size,0,none⟩) s.o.size _).trans (belowK_b (w:=w) (zm s.o.size p.o.size) _ aA _ _ HD.o aj rfl rfl)⟩
 case stop =>
  rintro aA ao D Z _ _ B _;exact B.elim
end Limb
namespace Limb
open Go.RowKit Go.Sort Go.FreshH
variable {W w w':World} {b c hi lo n:Nat} {t:TypeId} {l:List Value} {a:Option Addr} {v:Value}
theorem jan (f d:Int):Int.gcd f d=Int.gcd d (f%d):=by rw[Int.emod_def,Int.gcd_sub_mul_left_right,Int.gcd_comm]
structure RdS (w:World) (lo hi:Nat) (a:Option Addr) (n:Nat) (o:Nat->Int):Prop where
 rd:Rd w a n o
 far:0<n->∀ p,a=some p->p.block<lo\/hi<=p.block
theorem RdS.below {o:Nat->Int} (f:RdS w lo hi a n o) (d:Bl w w'):RdS w' lo hi a n o:=⟨f.rd.below d,f.far⟩
theorem RdS.set {o:Nat->Int} (h:RdS w lo hi a n o) {p:Addr} (k:lo<=p.block) (m:p.block<hi) (v:Value):RdS (w.setCell p v) lo hi a n o:=by
 refine⟨⟨λg=>?_,h.rd.rng⟩,h.far⟩;obtain⟨b,off,d,i⟩:=h.rd.cells g;refine⟨b,off,d,λq f=>?_⟩;have j:=h.far g _ d;dsimp only at j;rw[<- i q f];exact World.cell?_of_block (Below.heap_setCell _ _ _ _ Zd)
theorem RdS.sz {o:Nat->Int} (h:RdS w lo hi a n o) {g:Addr} (d:lo<=g.block:=by dsimp only;omega) (f:g.block<hi:=by dsimp only;omega):RdS (w.setCell g v) lo hi a n o:=h.set d f v
structure Nm (w:World) (lo hi:Nat) (z:Int) (a:Option Addr) (c:Nat):Prop where
 r:RdS w lo hi a (Ja z.natAbs) (dgi z.natAbs)
 le:Ja z.natAbs<=c
 small:Ja z.natAbs<=10000000
theorem Nm.below {z:Int} (d:Nm w lo hi z a c) (f:Bl w w'):Nm w' lo hi z a c:=⟨d.r.below f,d.le,d.small⟩
theorem Nm.set {z:Int} (d:Nm w lo hi z a c) {p:Addr} (f:lo<=p.block) (g:p.block<hi) (v:Value):Nm (w.setCell p v) lo hi z a c:=⟨d.r.set f g v,d.le,d.small⟩
theorem Nm.sz {z:Int} (h:Nm w lo hi z a c) {g:Addr} (d:lo<=g.block:=by dsimp only;omega) (f:g.block<hi:=by dsimp only;omega):Nm (w.setCell g v) lo hi z a c:=h.set d f v
def gmeas (w:World) (b:Nat):Nat:=match w.cell? ⟨b,1,none⟩ with
 | some (.slice (some p) n _)=>(Jj (λi=>match w.cell? ⟨p.block,p.off+i,none⟩ with | some (.int _ d)=>d | _=>0) n).toNat
 | _=>0
theorem Ku {k:Value} {M:Nat} (i:Bx w b t k (.slice a (Ja M) c)) (h:Rd w a (Ja M) (dgi M)):gmeas w b=M:=by
 unfold gmeas;rw[i.c1];by_cases d:0<Ja M
 ·obtain⟨m,off,rfl,g⟩:=h.cells d;dsimp only;rw[Qb (o':=dgi M) (λj hi=>by rw[g j hi])];rw[Jz];omega
 ·have f:M=0:=QI.1 Zo;subst f
  cases a with
  | none=>rfl
  | some p =>
   dsimp only;rw[Jw];rfl
theorem jfx (f:Nat) (a:Option Addr) (d:Nat) (i:World) (k:Rd i a (Ja f) (dgi f)) (g:Ja f<=d) (j:Ja f<=2) :
  Cl 226 #[Jv false a (Ja f) d] i λe w'=>e=.returned (.tuple #[.int .i64 (f:Int),.int .i64 0])/\Bl i w':=by
 have m:f<1000000000000000000:=Nat.lt_of_lt_of_le (JE f) (jd0 j);have h:=back_ok (f:Int) a d i (by rw[Int.natAbs_natCast];exact k) (by rw[Int.natAbs_natCast];exact g) Zo Zo;rw[Int.natAbs_natCast,show decide ((f:Int)<0)=false from zo Zo] at h;exact h
theorem jce {N:Nat} (d:Ja N<=2):(N:Int)<=999999999999999999:=by
 have f:N<1000000000000000000:=Nat.lt_of_lt_of_le (JE N) (jd0 d);omega
open Classical in
theorem jiz (s1:Bool) (a1:Option Addr) (L c1:Nat) (o1:Nat->Int) (s2:Bool) (a2:Option Addr) (M c2:Nat) (o2:Nat->Int) (d:World)
  (h1:Rd d a1 L o1) (bT:L<=10000000) (bK:L<=c1) (h2:Rd d a2 M o2) (bU:M<=10000000) (bL:M<=c2) :
  Cl 180 #[Jv s1 a1 L c1,Jv s2 a2 M c2] d (VJ d (Int.gcd (Jp s1 L o1) (Jp s2 M o2):Nat)):=by
 obtain⟨x1,d1,r1,l1,m1,O1⟩:=XM s1 a1 L c1 o1 d h1 Zo bK;obtain⟨x2,d2,r2,l2,m2,O2⟩:=XM s2 a2 M c2 o2 d h2 Zo bL
 generalize Jp s1 L o1=z1 at r1 l1 m1 O1 ⊢
 generalize Jp s2 M o2=z2 at r2 l2 m2 O2 ⊢
 have N1:Nm d d.heap.size (d.heap.size+3) z1 x1 d1:=⟨⟨r1,λh0 p hp=>Or.inl (by obtain⟨b,off,e,hc⟩:=r1.cells h0;rw[e] at hp;cases hp;exact block_lt_of_cell (hc 0 h0))⟩,m1,Zo⟩;have N2:Nm d d.heap.size (d.heap.size+3) z2 x2 d2:=⟨⟨r2,λh0 p hp=>Or.inl (by obtain⟨b,off,e,hc⟩:=r2.cells h0;rw[e] at hp;cases hp;exact block_lt_of_cell (hc 0 h0))⟩,m2,Zo⟩;have HN:=qh<|And.intro N1 N2;have a4:=qh O1;have a5:=qh O2;obtain⟨aY,hG⟩:=gn (Int.gcd z1 z2:Nat);rw[<- hG];have bC:=qh hG;have B1:=(((Bx.new d 30 (.bool s1) (.slice a1 L c1)).alloc (.cells #[.bool s2,.slice a2 M c2] 30)).alloc (.cells #[.bool false,.slice none 0 0] 30));have B2:=((Bx.Zu d (.cells #[.bool s1,.slice a1 L c1] 30) 30 (.bool s2) (.slice a2 M c2)).alloc (.cells #[.bool false,.slice none 0 0] 30));have B3:=(Bx.new3 d (.cells #[.bool s1,.slice a1 L c1] 30) (.cells #[.bool s2,.slice a2 M c2] 30) 30 (.bool false) (.slice none 0 0));clear O1 O2 N1 N2 r1 r2 l1 l2 m1 m2 h1 h2 hG;go_enter func180,ntmps180
 go_upto_region 1 with (fail)
 obtain⟨W,hW⟩:=gn (((d.alloc (.cells #[.bool s1,.slice a1 L c1] 30)).alloc (.cells #[.bool s2,.slice a2 M c2] 30)).alloc (.cells #[.bool false,.slice none 0 0] 30));have G1:=qh ((zk.alloc (by go_size) _ |>.alloc (by go_size) _ |>.alloc (by go_size) _):Bl d (((d.alloc (.cells #[.bool s1,.slice a1 L c1] 30)).alloc (.cells #[.bool s2,.slice a2 M c2] 30)).alloc (.cells #[.bool false,.slice none 0 0] 30)))
 have bc:d.heap.size+3=W.heap.size:=by rw[hW];simp
 rw[<- hW] at B1 B2 B3 G1;rw[<- hW];have aA:=qh B1;have ab:=qh B2;have F:=qh B3;have bF:=qh bc;clear hW B1 B2 B3 bc;have HS:=qh (λ(w':World) (hb:Bl W w')=>And.intro (aA.o.bl hb) (And.intro (ab.o.bl hb) (F.o.bl hb)))
 refine Ji 3 (JI [(1,Sp.know (Jv (decide (z1<0)) x1 (Ja z1.natAbs) d1))]) (λw'=>Bl W w') Zk Zk
  (Jb (Sp.Jk _) Jh) (λ_ _ bb hb=>bb.trans (hb.mono bb.size)) (zk.drew) ?_
 simp only[zx,zy,zv,zw];refine rdw (λw' ai=>by obtain⟨y0,y1,y2,y3⟩:=(HS.o _ ai).1.all;go_simp;try rfl) ?_
 (refine Jc rfl rfl (λw' bO=>?_) ?_;· (have ai:=Has.world bO;go_simp;((refine(a4.o w' (G1.o.trans (ai.mono G1.o.size))).mono ?_;rintro e b0 ⟨rfl,hb⟩;exact⟨_,rfl,rfl,hb⟩))))
 rintro _ rfl
 conv=>arg 10;simp only[Act.put,zq0,zq1,zq2]
 refine rdw (λw' ai=>by obtain⟨y0,y1,y2,y3⟩:=(HS.o _ ai).2.1.all;go_simp;try rfl) ?_;refine Jn (λw1 be hF=>?_);have GB:=qh be;clear hF be;go_wp2_with fail
 refine(a5.o w1 (G1.o.trans (GB.o.mono G1.o.size))).mono ?_;rintro e w2 ⟨rfl,bf⟩;have GB:=qk GB bf;have bu:=HS.o _ GB.o;have A:=qh bu;clear bf a4 a5;obtain⟨u,q,x,y⟩:=bu.1.all;obtain⟨k,j,m,o⟩:=bu.2.1.all;clear bu;go_wp2_with fail
 have bP:=bF.o;have K1:=qh<|((A.o.1.set (.bool (decide (z1<0))) (.slice x1 (Ja z1.natAbs) d1)).other (a:=⟨d.heap.size+1,0,none⟩) Zd (.bool (decide (z2<0)))).other (a:=⟨d.heap.size+1,1,none⟩) Zd (.slice x2 (Ja z2.natAbs) d2);have K2:=qh<|((A.o.2.1.other (a:=⟨d.heap.size,0,none⟩) Zd (.bool (decide (z1<0)))).other (a:=⟨d.heap.size,1,none⟩) Zd (.slice x1 (Ja z1.natAbs) d1)).set (.bool (decide (z2<0))) (.slice x2 (Ja z2.natAbs) d2);have K3:=qh<|(((A.o.2.2.other (a:=⟨d.heap.size,0,none⟩) Zd (.bool (decide (z1<0)))).other (a:=⟨d.heap.size,1,none⟩) Zd (.slice x1 (Ja z1.natAbs) d1)).other (a:=⟨d.heap.size+1,0,none⟩) Zd (.bool (decide (z2<0)))).other (a:=⟨d.heap.size+1,1,none⟩) Zd (.slice x2 (Ja z2.natAbs) d2);have aF:=G1.o.trans (GB.o.mono G1.o.size);have KG:=qh<|(((aF.setCell (p:=⟨d.heap.size,0,none⟩) zj (.bool (decide (z1<0)))).setCell (p:=⟨d.heap.size,1,none⟩) zj (.slice x1 (Ja z1.natAbs) d1)).setCell (p:=⟨d.heap.size+1,0,none⟩) Zd (.bool (decide (z2<0)))).setCell (p:=⟨d.heap.size+1,1,none⟩) Zd (.slice x2 (Ja z2.natAbs) d2);have bG:=qh<|((((HN.o.1.below aF).set (p:=⟨d.heap.size,0,none⟩) zj Zd (.bool (decide (z1<0)))).set (p:=⟨d.heap.size,1,none⟩) zj Zd (.slice x1 (Ja z1.natAbs) d1)).set (p:=⟨d.heap.size+1,0,none⟩) Zd Zd (.bool (decide (z2<0)))).set (p:=⟨d.heap.size+1,1,none⟩) Zd Zd (.slice x2 (Ja z2.natAbs) d2);have bH:=qh<|((((HN.o.2.below aF).set (p:=⟨d.heap.size,0,none⟩) zj Zd (.bool (decide (z1<0)))).set (p:=⟨d.heap.size,1,none⟩) zj Zd (.slice x1 (Ja z1.natAbs) d1)).set (p:=⟨d.heap.size+1,0,none⟩) Zd Zd (.bool (decide (z2<0)))).set (p:=⟨d.heap.size+1,1,none⟩) Zd Zd (.slice x2 (Ja z2.natAbs) d2)
 clear aF bP A HS HN u q x y k j m o
 go_loopw [] (λwr=>∃ (P i:Int) (ax B:Option Addr) (dx C:Nat),Int.gcd P i=aY/\Nm wr d.heap.size (d.heap.size+3) P ax dx/\Nm wr d.heap.size (d.heap.size+3) i B C /\
   Bx wr d.heap.size 30 (.bool (decide (P<0))) (.slice ax (Ja P.natAbs) dx)/\Bx wr (d.heap.size+1) 30 (.bool (decide (i<0))) (.slice B (Ja i.natAbs) C)/\Bx wr (d.heap.size+1+1) 30 (.bool false) (.slice none 0 0)/\Bl d wr) (λwr=>gmeas wr (d.heap.size+1))
 case atStart=>exact⟨z1,z2,x1,x2,d1,d2,bC.o.symm,bG.o,bH.o,K1.o,K2.o,K3.o,KG.o⟩
 case round =>
  obtain⟨P,i,ax,B,dx,C,hg,hx,hy,aP,aC,aQ,hb⟩:=hrel;obtain⟨wo,rfl⟩:=gn (wr:World);have HX:=qh hx;have Y:=qh hy;have HG:=qh hg;have HB:=qh hb;have aA:=qh aP;have ab:=qh aC;have F:=qh aQ;have a0:=qh<|Ku aC hy.r.rd;obtain⟨R,aD⟩:=gn (Ja P.natAbs);obtain⟨Ly,aE⟩:=gn (Ja i.natAbs)
  have bY:R<=10000000:=by rw[aD];exact hx.small
  have bZ:Ly<=10000000:=by rw[aE];exact hy.small
  have HL:=qh<|And.intro aD aE;obtain⟨u,q,x,y⟩:=aP.all;obtain⟨k,j,m,o⟩:=aC.all;obtain⟨G,H,I,J⟩:=aQ.all;rw[<- aD] at q;rw[<- aE] at j;clear hx hy hg hb aP aC aQ aD aE;by_cases bm:Ly=0
  ·subst bm;have CL:=qh<|XR ax R dx (dgi P.natAbs) wo (by rw[HL.o.1];exact HX.o.r.rd) Zo;go_wp2_with fail
   refine CL.o.mono ?_;rintro e O ⟨ac,dc,rfl,D,hn,f⟩;have HA:=qh<|show ZN O wo.heap.size ac R dc P.natAbs (dgi P.natAbs) from⟨D,Jr _ _,by rw[HL.o.1];exact Jz _,Zo,hn⟩;have g:=qh f;clear D hn f CL u q x y k j m o G H I J;have CT:=qh<|Y9 false false ac R dc P.natAbs wo.heap.size (dgi P.natAbs) O HA.o rfl;go_wp2_with fail
   refine CT.o.mono ?_;rintro e w5 ⟨rfl,D,S⟩;have au:=g.o.trans (S.mono g.o.size);have E:=F.o.bl au;have aJ:=qh E;have a6:=qh D;have bv:=qh<|HB.o.trans (au.mono HB.o.size);have a3:=qh HA.o.none;clear D S au CT;obtain⟨G,H,I,J⟩:=E.all;clear E;go_wp2_with fail
   have hG:(aY:Int)=(P.natAbs:Int):=by
    have hy:i=0:=by have:=QI.1 HL.o.2.symm;omega
    rw[<- HG.o,hy,Int.gcd_zero_right]
   have bM:=F.o.lt
   have aR:R=Ja ((aY:Nat):Int).natAbs:=by rw[Int.natAbs_natCast,HL.o.1];congr 1;omega
   have bJ:P.natAbs=((aY:Nat):Int).natAbs:=by rw[Int.natAbs_natCast];omega
   rw[<- HL.o.1] at a6 a3;have HH:=qh<|aJ.o.set (.bool false) (.slice ac (Ja P.natAbs) (Ja P.natAbs));refine bodyPost_ret (Je rfl _ _ _ _ _ _ _ rfl HH.o underlying30 rfl Zk) rfl ⟨ac,?_,?_,?_,?_⟩
   ·rw[<- aR,HL.o.1,zo (show ¬((aY:Nat):Int)<0 by omega)]
   ·rw[<- aR,<- bJ];exact((a6.o.oz).oz).mono HB.o.size
   ·rw[<- aR];exact a3.o
   ·exact(bv.o.sc).sc
  ·have bn:¬i=0:=λbb=>bm (by rw[HL.o.2,bb];exact Jw)
   have ad:=qh bn;clear bn;have bQ:0<Ly:=Zo;by_cases bj:R<=2
   ·have aw:(R:Int)<=2:=Zo;have bs:decide ((R:Int)<=2)=true:=decide_eq_true aw;by_cases bk:Ly<=2
    ·have az:(Ly:Int)<=2:=Zo;have bt:decide ((Ly:Int)<=2)=true:=decide_eq_true az;have S1:=qh<|jce (N:=P.natAbs) (by rw[<- HL.o.1];exact bj);have S2:=qh<|jce (N:=i.natAbs) (by rw[<- HL.o.2];exact bk);have aZ:=qh<|And.intro bj bk;have CL:=qh<|XR ax R dx (dgi P.natAbs) wo (by rw[HL.o.1];exact HX.o.r.rd) Zo;go_wp2_with fail
     refine CL.o.mono ?_;rintro e O ⟨ac,dc,rfl,D,hn,f⟩;have HA:=qh<|show ZN O wo.heap.size ac R dc P.natAbs (dgi P.natAbs) from⟨D,Jr _ _,by rw[HL.o.1];exact Jz _,Zo,hn⟩;have g:=qh f;clear D hn f CL u q x y k j m o G H I J;have CT:=qh<|Y9 false false ac R dc P.natAbs wo.heap.size (dgi P.natAbs) O HA.o rfl;go_wp2_with fail
     refine CT.o.mono ?_;rintro e w5 ⟨rfl,D,S⟩;have g:=qk g S;have BK:=qh<|jfx P.natAbs ac (Ja P.natAbs) w5 D.rd zj (by rw[<- HL.o.1];exact aZ.o.1);clear D S CT HA;go_wp2_with fail
     refine BK.o.mono ?_;rintro e w6 ⟨rfl,aj⟩;have ae:=qh<|g.o.trans (aj.mono g.o.size);clear aj BK g;have K:=ab.o.below ae.o ab.o.lt;obtain⟨k,j,m,o⟩:=K.all;clear K;have CL:=qh<|XR B (Ja i.natAbs) C (dgi i.natAbs) w6 (Y.o.r.rd.below ae.o) (by have:=HL.o.2;omega);go_wp2_with fail
     refine CL.o.mono ?_;rintro e O ⟨aO,ba,rfl,D,hn,f⟩;have HA:=qh<|show ZN O w6.heap.size aO (Ja i.natAbs) ba i.natAbs (dgi i.natAbs) from⟨D,Jr _ _,Jz _,by have:=HL.o.2;omega,hn⟩;have g:=qh<|ae.o.trans (f.mono ae.o.size);clear D hn f CL ae k j m o;have CT:=qh<|Y9 false false aO (Ja i.natAbs) ba i.natAbs w6.heap.size (dgi i.natAbs) O HA.o rfl;go_wp2_with fail
     refine CT.o.mono ?_;rintro e w5 ⟨rfl,D,S⟩;have g:=qk g S;have BK:=qh<|jfx i.natAbs aO (Ja i.natAbs) w5 D.rd zj (by rw[<- HL.o.2];exact aZ.o.2);clear D S CT HA;go_wp2_with fail
     refine BK.o.mono ?_;rintro e w7 ⟨rfl,aj⟩;have bA:=qh<|g.o.trans (aj.mono g.o.size);clear aj BK g;go_wp2;go_loopw [5,7] (λb1 n wr=>∃ (p aH:Nat),Nat.gcd p aH=aY/\(p:Int)<=999999999999999999/\(aH:Int)<=999999999999999999/\b1=.int .i64 (p:Int)/\n=.int .i64 (aH:Int)/\Bl wo wr) (λ_ n _=>(intOf n).toNat)
     case atStart=>exact⟨P.natAbs,i.natAbs,HG.o,S1.o,S2.o,rfl,rfl,bA.o⟩
     case round =>
      obtain⟨p,aH,bh,hp,hq,rfl,rfl,T⟩:=hrel;have a8:=qh bh;have aB:=qh T;clear bh T;by_cases bN:0<aH
      ·have bR:0<(aH:Int):=Zo;have bW:¬(aH:Int)=0:=Zo;obtain⟨r,hr⟩:=gn (p%aH:Nat)
       have t1:(p:Int).tmod (aH:Int)=(r:Int):=by rw[hr,Int.natCast_emod];exact Int.tmod_eq_emod_of_nonneg Zo
       have bi:r<aH:=by rw[hr];exact Nat.mod_lt _ bN
       have u1:=IntWalk.i64_in (r:Int) Zo;have HR:=qh hr;have a9:=qh bi;clear hr bi;go_wp2;go_quiet (fail);go_wp2;go_roundw
       case rel=>exact⟨aH,r,by rw[HR.o,Nat.gcd_comm,<- Nat.gcd_rec,Nat.gcd_comm];exact a8.o,hq,Zh a9,rfl,rfl,QC aB.o _⟩
       case measure=>simp[intOf];exact a9.o
      ·have bV:¬0<(aH:Int):=Zo
       have aT:p=aY:=by rw[<- a8.o,show aH=0 by omega,Nat.gcd_zero_right]
       have OF:=qh (λ(w':World)=>X7 (aY:Int) w' Zo Zo);have bD:=qh aT;rw[<- aT] at OF;clear aT;go_wp2_with fail
       refine(OF.o _).mono ?_;rintro e w8 ⟨aG,rfl,D,hn,bg⟩;have aS:=aB.o.trans (bg.mono aB.o.size);have E:=F.o.bl aS;have aJ:=qh E;have a7:=qh<|And.intro D hn;have bB:=qh<|HB.o.trans (aS.mono HB.o.size);have bE:=qh aB.o.size;clear D hn bg aS OF;obtain⟨G,H,I,J⟩:=E.all;clear E;go_wp2_with fail
       have bM:=F.o.lt;have bX:=bE.o;have bS:=HB.o.size;rw[<- bD.o];refine bodyPost_ret (Je rfl _ _ _ _ _ _ _ rfl (aJ.o.set _ _) underlying30 rfl Zk) rfl ⟨aG,?_,?_,a7.o.2,?_⟩
       ·rw[zo (show ¬((p:Nat):Int)<0 by omega)];rfl
       ·exact((a7.o.1.oz).oz).mono Zo
       ·exact(bB.o.sc).sc
    ·have az:¬(Ly:Int)<=2:=Zo;have bt:decide ((Ly:Int)<=2)=false:=zo az;have DV:=qh<|V7 P i ax B dx C wo HX.o.r.rd HX.o.small HX.o.le Y.o.r.rd Y.o.small Y.o.le ad.o;rw[<- HL.o.1,<- HL.o.2] at DV;go_wp2_with fail
     refine DV.o.mono ?_;rintro e O ⟨aq,z,rfl,-,ak,-,-,-,f⟩;have ao:=f;have V:=qh ak;have Q:=aA.o.bl f;have K:=ab.o.bl f;have E:=F.o.bl f;have A:=qh<|And.intro Q (And.intro K E);have ag:=qh<|Y.o.below f;have g:=qh f;clear ak f ao DV u q x y k j m o G H I J;obtain⟨u,q,x,y⟩:=Q.all;obtain⟨k,j,m,o⟩:=K.all;clear Q K E;obtain⟨h,hR⟩:=gn (P%i);obtain⟨bo,hQ⟩:=gn (P/i);rw[<- hR] at V ⊢;rw[<- hQ];have af:=qh hR;clear hR hQ
     go_upto_region 10 with (fail)
     obtain⟨bI,hU⟩:=gn ((O.alloc (.cells #[.bool (decide (bo<0)),.slice aq (Ja bo.natAbs) (Ja bo.natAbs)] 30)).alloc (.cells #[.bool (decide (h<0)),.slice z (Ja h.natAbs) (Ja h.natAbs)] 30));have s:=bq hU ((zk.alloc zj _).alloc (by simp) _);have aK:=qh (show Bx bI (O.heap.size+1) 30 (.bool (decide (h<0))) (.slice z (Ja h.natAbs) (Ja h.natAbs)) by rw[hU];exact Bx.Zu O _ _ _ _);rw[<- hU];have Q:=A.o.1.below s A.o.1.lt;have K:=A.o.2.1.below s A.o.2.1.lt;have E:=A.o.2.2.below s A.o.2.2.lt;have U:=qh<|And.intro Q (And.intro K E);have aM:=qh<|ag.o.below s;have X:=qh<|V.o.below s;have aI:=qh<|HB.o.trans ((g.o.trans (s.mono g.o.size)).mono HB.o.size);clear hU s u q x y k j m o E A ag V;obtain⟨u,q,x,y⟩:=Q.all;obtain⟨k,j,m,o⟩:=K.all;obtain⟨G,H,I,J⟩:=aK.o.all;clear Q K;obtain⟨Z,T⟩:=gn (O.heap.size+1)
     have av:d.heap.size+3<Z:=by have h1:=F.o.lt;have h2:=g.o.size;omega
     rw[<- T] at G H I J ⊢;have aU:¬Z=d.heap.size:=Zo;have aV:¬Z=d.heap.size+1:=Zo;have aW:¬d.heap.size=Z:=Zo;have aX:¬d.heap.size+1=Z:=Zo;clear T av;go_region;clear aU aV aW aX
     have am:d.heap.size+3<=wo.heap.size:=by have:=F.o.lt;omega
     have m1:=(((U.o.1.set (.bool (decide (i<0))) (.slice B (Ja i.natAbs) C)).other (a:=⟨d.heap.size+1,0,none⟩) Zd (.bool (decide (h<0)))).other (a:=⟨d.heap.size+1,1,none⟩) Zd (.slice z (Ja h.natAbs) (Ja h.natAbs)));have m2:=(((U.o.2.1.other (a:=⟨d.heap.size,0,none⟩) Zd (.bool (decide (i<0)))).other (a:=⟨d.heap.size,1,none⟩) Zd (.slice B (Ja i.natAbs) C)).set (.bool (decide (h<0))) (.slice z (Ja h.natAbs) (Ja h.natAbs)));have m3:=((((U.o.2.2.other (a:=⟨d.heap.size,0,none⟩) Zd (.bool (decide (i<0)))).other (a:=⟨d.heap.size,1,none⟩) Zd (.slice B (Ja i.natAbs) C)).other (a:=⟨d.heap.size+1,0,none⟩) Zd (.bool (decide (h<0)))).other (a:=⟨d.heap.size+1,1,none⟩) Zd (.slice z (Ja h.natAbs) (Ja h.natAbs)));have g1:=(((((aI.o.setCell (p:=⟨d.heap.size,0,none⟩) zj (.bool (decide (i<0)))).setCell (p:=⟨d.heap.size,1,none⟩) zj (.slice B (Ja i.natAbs) C)).setCell (p:=⟨d.heap.size+1,0,none⟩) Zd (.bool (decide (h<0)))).setCell (p:=⟨d.heap.size+1,1,none⟩) Zd (.slice z (Ja h.natAbs) (Ja h.natAbs))).drew);have L:=((((aM.o.set (p:=⟨d.heap.size,0,none⟩) zj Zd (.bool (decide (i<0)))).set (p:=⟨d.heap.size,1,none⟩) zj Zd (.slice B (Ja i.natAbs) C)).set (p:=⟨d.heap.size+1,0,none⟩) Zd Zd (.bool (decide (h<0)))).set (p:=⟨d.heap.size+1,1,none⟩) Zd Zd (.slice z (Ja h.natAbs) (Ja h.natAbs)))
     have aa:h.natAbs<i.natAbs:=by have h1:=Int.emod_nonneg P ad.o;have h2:=Int.emod_lt P ad.o;have h3:=af.o;omega
     have an:Nm bI d.heap.size (d.heap.size+3) h z (Ja h.natAbs):=⟨⟨X.o.rd,λh0 p hp=>Or.inr (zm am (X.o.blk hp).2.1)⟩,zj,zm (JP (Nat.le_of_lt aa)) Y.o.small⟩;have M:=((((an.set (p:=⟨d.heap.size,0,none⟩) zj Zd (.bool (decide (i<0)))).set (p:=⟨d.heap.size,1,none⟩) zj Zd (.slice B (Ja i.natAbs) C)).set (p:=⟨d.heap.size+1,0,none⟩) Zd Zd (.bool (decide (h<0)))).set (p:=⟨d.heap.size+1,1,none⟩) Zd Zd (.slice z (Ja h.natAbs) (Ja h.natAbs)));have P1:=qh m1;have P2:=qh m2;have P3:=qh m3;have PG:=qh g1;have aN:=qh L;have ah:=qh M;have aL:=qh aa;clear m1 m2 m3 g1 L M an aa am u q x y k j m o G H I J;go_wp2;go_roundw
     case rel =>
      refine⟨i,h,B,z,C,Ja h.natAbs,?_,aN.o.below zk.drew,ah.o.below zk.drew,?_,P2.o,P3.o,PG.o⟩
      ·rw[af.o,<- jan];exact HG.o
      ·exact P1.o
     case measure =>
      rw[a0.o];have bb:=Ku (M:=h.natAbs) P2.o ah.o.r.rd;exact Nat.lt_of_le_of_lt (Nat.le_of_eq bb) aL.o
   ·have aw:¬(R:Int)<=2:=Zo;have bs:decide ((R:Int)<=2)=false:=zo aw;have DV:=qh<|V7 P i ax B dx C wo HX.o.r.rd HX.o.small HX.o.le Y.o.r.rd Y.o.small Y.o.le ad.o;rw[<- HL.o.1,<- HL.o.2] at DV;go_wp2_with fail
    refine DV.o.mono ?_;rintro e O ⟨aq,z,rfl,-,ak,-,-,-,f⟩;have ao:=f;have V:=qh ak;have Q:=aA.o.bl f;have K:=ab.o.bl f;have E:=F.o.bl f;have A:=qh<|And.intro Q (And.intro K E);have ag:=qh<|Y.o.below f;have g:=qh f;clear ak f ao DV u q x y k j m o G H I J;obtain⟨u,q,x,y⟩:=Q.all;obtain⟨k,j,m,o⟩:=K.all;clear Q K E;obtain⟨h,hR⟩:=gn (P%i);obtain⟨bo,hQ⟩:=gn (P/i);rw[<- hR] at V ⊢;rw[<- hQ];have af:=qh hR;clear hR hQ
    go_upto_region 10 with (fail)
    obtain⟨bI,hU⟩:=gn ((O.alloc (.cells #[.bool (decide (bo<0)),.slice aq (Ja bo.natAbs) (Ja bo.natAbs)] 30)).alloc (.cells #[.bool (decide (h<0)),.slice z (Ja h.natAbs) (Ja h.natAbs)] 30));have s:=bq hU ((zk.alloc zj _).alloc (by simp) _);have aK:=qh (show Bx bI (O.heap.size+1) 30 (.bool (decide (h<0))) (.slice z (Ja h.natAbs) (Ja h.natAbs)) by rw[hU];exact Bx.Zu O _ _ _ _);rw[<- hU];have Q:=A.o.1.below s A.o.1.lt;have K:=A.o.2.1.below s A.o.2.1.lt;have E:=A.o.2.2.below s A.o.2.2.lt;have U:=qh<|And.intro Q (And.intro K E);have aM:=qh<|ag.o.below s;have X:=qh<|V.o.below s;have aI:=qh<|HB.o.trans ((g.o.trans (s.mono g.o.size)).mono HB.o.size);clear hU s u q x y k j m o E A ag V;obtain⟨u,q,x,y⟩:=Q.all;obtain⟨k,j,m,o⟩:=K.all;obtain⟨G,H,I,J⟩:=aK.o.all;clear Q K;obtain⟨Z,T⟩:=gn (O.heap.size+1)
    have av:d.heap.size+3<Z:=by have h1:=F.o.lt;have h2:=g.o.size;omega
    rw[<- T] at G H I J ⊢;have aU:¬Z=d.heap.size:=Zo;have aV:¬Z=d.heap.size+1:=Zo;have aW:¬d.heap.size=Z:=Zo;have aX:¬d.heap.size+1=Z:=Zo;clear T av;go_region;clear aU aV aW aX
    have am:d.heap.size+3<=wo.heap.size:=by have:=F.o.lt;omega
    have m1:=(((U.o.1.set (.bool (decide (i<0))) (.slice B (Ja i.natAbs) C)).other (a:=⟨d.heap.size+1,0,none⟩) Zd (.bool (decide (h<0)))).other (a:=⟨d.heap.size+1,1,none⟩) Zd (.slice z (Ja h.natAbs) (Ja h.natAbs)));have m2:=(((U.o.2.1.other (a:=⟨d.heap.size,0,none⟩) Zd (.bool (decide (i<0)))).other (a:=⟨d.heap.size,1,none⟩) Zd (.slice B (Ja i.natAbs) C)).set (.bool (decide (h<0))) (.slice z (Ja h.natAbs) (Ja h.natAbs)));have m3:=((((U.o.2.2.other (a:=⟨d.heap.size,0,none⟩) Zd (.bool (decide (i<0)))).other (a:=⟨d.heap.size,1,none⟩) Zd (.slice B (Ja i.natAbs) C)).other (a:=⟨d.heap.size+1,0,none⟩) Zd (.bool (decide (h<0)))).other (a:=⟨d.heap.size+1,1,none⟩) Zd (.slice z (Ja h.natAbs) (Ja h.natAbs)));have g1:=(((((aI.o.setCell (p:=⟨d.heap.size,0,none⟩) zj (.bool (decide (i<0)))).setCell (p:=⟨d.heap.size,1,none⟩) zj (.slice B (Ja i.natAbs) C)).setCell (p:=⟨d.heap.size+1,0,none⟩) Zd (.bool (decide (h<0)))).setCell (p:=⟨d.heap.size+1,1,none⟩) Zd (.slice z (Ja h.natAbs) (Ja h.natAbs))).drew);have L:=((((aM.o.set (p:=⟨d.heap.size,0,none⟩) zj Zd (.bool (decide (i<0)))).set (p:=⟨d.heap.size,1,none⟩) zj Zd (.slice B (Ja i.natAbs) C)).set (p:=⟨d.heap.size+1,0,none⟩) Zd Zd (.bool (decide (h<0)))).set (p:=⟨d.heap.size+1,1,none⟩) Zd Zd (.slice z (Ja h.natAbs) (Ja h.natAbs)))
    have aa:h.natAbs<i.natAbs:=by have h1:=Int.emod_nonneg P ad.o;have h2:=Int.emod_lt P ad.o;have h3:=af.o;omega
    have an:Nm bI d.heap.size (d.heap.size+3) h z (Ja h.natAbs):=⟨⟨X.o.rd,λh0 p hp=>Or.inr (zm am (X.o.blk hp).2.1)⟩,zj,zm (JP (Nat.le_of_lt aa)) Y.o.small⟩;have M:=((((an.set (p:=⟨d.heap.size,0,none⟩) zj Zd (.bool (decide (i<0)))).set (p:=⟨d.heap.size,1,none⟩) zj Zd (.slice B (Ja i.natAbs) C)).set (p:=⟨d.heap.size+1,0,none⟩) Zd Zd (.bool (decide (h<0)))).set (p:=⟨d.heap.size+1,1,none⟩) Zd Zd (.slice z (Ja h.natAbs) (Ja h.natAbs)));have P1:=qh m1;have P2:=qh m2;have P3:=qh m3;have PG:=qh g1;have aN:=qh L;have ah:=qh M;have aL:=qh aa;clear m1 m2 m3 g1 L M an aa am u q x y k j m o G H I J;go_wp2;go_roundw
    case rel =>
     refine⟨i,h,B,z,C,Ja h.natAbs,?_,aN.o.below zk.drew,ah.o.below zk.drew,?_,P2.o,P3.o,PG.o⟩
     ·rw[af.o,<- jan];exact HG.o
     ·exact P1.o
    case measure =>
     rw[a0.o];have bb:=Ku (M:=h.natAbs) P2.o ah.o.r.rd;exact Nat.lt_of_le_of_lt (Nat.le_of_eq bb) aL.o
def Bxs (w:World) (b:Nat) (t:TypeId) (l:List Value):Prop:=w.heap[b]?=some (.cells l.toArray t (0,0))
theorem Bxs.cell (f:Bxs w b t l) {i:Nat} (d:l[i]?=some v):w.cell? ⟨b,i,none⟩=some v:=by
 rw[cell_of_row _ _ _ _ _ _ f]
 simpa using d
theorem Bxs.ce (g:Bxs w b t l) (f:Nat) (d:l[f]?=some v:=by exact rfl):w.cell? ⟨b,f,none⟩=some v:=g.cell d
theorem Bxs.fz (f:Bxs w b t l) (g:Nat):w.frozen? ⟨b,g,none⟩=false:=by
 simp only[World.frozen?];have d:w.heap[b]?=some (.cells l.toArray t (0,0)):=f;simp[d]
theorem Bxs.lt (d:Bxs w b t l):b<w.heap.size:=(Array.getElem?_eq_some_iff.1 d).1
theorem Bxs.c2 {g:World} {b:Nat} {j:TypeId} {d f:Value} {k:List Value} (h:Bxs g b j (d :: f :: k)):g.cell? ⟨b,0,none⟩=some d/\g.cell? ⟨b,1,none⟩=some f:=⟨h.cell (i:=0) rfl,h.cell (i:=1) rfl⟩
theorem Bxs.c4 {j:World} {b:Nat} {m:TypeId} {d f g h:Value} {o:List Value} (k:Bxs j b m (d :: f :: g :: h :: o)):j.cell? ⟨b,0,none⟩=some d/\j.cell? ⟨b,1,none⟩=some f/\j.cell? ⟨b,2,none⟩=some g/\j.cell? ⟨b,3,none⟩=some h:=⟨k.cell (i:=0) rfl,k.cell (i:=1) rfl,k.cell (i:=2) rfl,k.cell (i:=3) rfl⟩
theorem Bxs.c8 {d:World} {b:Nat} {r:TypeId} {g h j k m o p q:Value} {s:List Value} (f:Bxs d b r (g :: h :: j :: k :: m :: o :: p :: q :: s)):d.cell? ⟨b,0,none⟩=some g/\d.cell? ⟨b,1,none⟩=some h/\d.cell? ⟨b,2,none⟩=some j/\d.cell? ⟨b,3,none⟩=some k/\d.cell? ⟨b,4,none⟩=some m/\d.cell? ⟨b,5,none⟩=some o/\d.cell? ⟨b,6,none⟩=some p/\d.cell? ⟨b,7,none⟩=some q:=⟨f.cell (i:=0) rfl,f.cell (i:=1) rfl,f.cell (i:=2) rfl,f.cell (i:=3) rfl,f.cell (i:=4) rfl,f.cell (i:=5) rfl,f.cell (i:=6) rfl,f.cell (i:=7) rfl⟩
theorem Bxs.d2 {g:World} {b:Nat} {j:TypeId} {d f:Value} {k:List Value} (h:Bxs g b j (d :: f :: k)):g.cell? ⟨b,0,none⟩=some d/\g.cell? ⟨b,1,none⟩=some f/\(∀ i,g.frozen? ⟨b,i,none⟩=false)/\b<g.heap.size:=⟨h.cell (i:=0) rfl,h.cell (i:=1) rfl,h.fz,h.lt⟩
theorem Bxs.d4 {d:World} {b:Nat} {m:TypeId} {h i j k:Value} {o:List Value} (f:Bxs d b m (h :: i :: j :: k :: o)):d.cell? ⟨b,0,none⟩=some h/\d.cell? ⟨b,1,none⟩=some i/\d.cell? ⟨b,2,none⟩=some j/\d.cell? ⟨b,3,none⟩=some k/\(∀ g,d.frozen? ⟨b,g,none⟩=false)/\b<d.heap.size:=⟨f.cell (i:=0) rfl,f.cell (i:=1) rfl,f.cell (i:=2) rfl,f.cell (i:=3) rfl,f.fz,f.lt⟩
theorem Bxs.d8 {d:World} {b:Nat} {r:TypeId} {h i j k m o p q:Value} {s:List Value} (f:Bxs d b r (h :: i :: j :: k :: m :: o :: p :: q :: s)):d.cell? ⟨b,0,none⟩=some h/\d.cell? ⟨b,1,none⟩=some i/\d.cell? ⟨b,2,none⟩=some j/\d.cell? ⟨b,3,none⟩=some k/\d.cell? ⟨b,4,none⟩=some m/\d.cell? ⟨b,5,none⟩=some o/\d.cell? ⟨b,6,none⟩=some p/\d.cell? ⟨b,7,none⟩=some q/\(∀ g,d.frozen? ⟨b,g,none⟩=false)/\b<d.heap.size:=⟨f.cell (i:=0) rfl,f.cell (i:=1) rfl,f.cell (i:=2) rfl,f.cell (i:=3) rfl,f.cell (i:=4) rfl,f.cell (i:=5) rfl,f.cell (i:=6) rfl,f.cell (i:=7) rfl,f.fz,f.lt⟩
theorem Bxs.d10 {d:World} {b:Nat} {u:TypeId} {h i j k m o p q r s:Value} {x:List Value} (f:Bxs d b u (h :: i :: j :: k :: m :: o :: p :: q :: r :: s :: x)):d.cell? ⟨b,0,none⟩=some h/\d.cell? ⟨b,1,none⟩=some i/\d.cell? ⟨b,2,none⟩=some j/\d.cell? ⟨b,3,none⟩=some k/\d.cell? ⟨b,4,none⟩=some m/\d.cell? ⟨b,5,none⟩=some o/\d.cell? ⟨b,6,none⟩=some p/\d.cell? ⟨b,7,none⟩=some q/\d.cell? ⟨b,8,none⟩=some r/\d.cell? ⟨b,9,none⟩=some s/\(∀ g,d.frozen? ⟨b,g,none⟩=false)/\b<d.heap.size:=⟨f.cell (i:=0) rfl,f.cell (i:=1) rfl,f.cell (i:=2) rfl,f.cell (i:=3) rfl,f.cell (i:=4) rfl,f.cell (i:=5) rfl,f.cell (i:=6) rfl,f.cell (i:=7) rfl,f.cell (i:=8) rfl,f.cell (i:=9) rfl,f.fz,f.lt⟩
theorem Bxs.of (d:Bxs w b t l) (e:w'.heap[b]?=w.heap[b]?):Bxs w' b t l:=e.trans d
theorem Bxs.below {g:Nat} (h:Bxs W b t l) (f:Below g W w) (d:b<g):Bxs w b t l:=h.of (f.block b d)
theorem Bxs.bl (f:Bxs W b t l) (d:Bl W w):Bxs w b t l:=f.below d f.lt
theorem Bxs.alloc (d:Bxs w b t l) (o:Obj):Bxs (w.alloc o) b t l:=d.of (heap_alloc_old w o d.lt)
theorem Bxs.other (f:Bxs w b t l) {a:Addr} (d:b≠a.block) (v:Value):Bxs (w.setCell a v) b t l:=f.of (Below.heap_setCell _ _ _ _ d)
theorem Bxs.oz (f:Bxs w b t l) {a:Addr} (d:b≠a.block:=by dsimp only;omega):Bxs (w.setCell a v) b t l:=f.other d v
theorem Bxs.new (d:World) (g:TypeId) (f:List Value):Bxs (d.alloc (.cells f.toArray g)) d.heap.size g f:=heap_alloc_new d _
theorem al {v g:World} {f:List Value} {d:TypeId} (h:v=g.alloc (.cells f.toArray d)):Bxs v g.heap.size d f:=h ▸ Bxs.new g d f
theorem bz {v g:World} {b:Nat} {d:TypeId} {f:List Value} (h:v=g) (i:Bxs g b d f):Bxs v b d f:=h ▸ i
theorem bw {v h:World} {b:Nat} {d:TypeId} {f g:List Value} (i:v=h) (j:Bxs h b d f) (e:f=g:=by simp only[zFv,zTv,List.set_cons_zero,List.set_cons_succ];exact rfl):Bxs v b d g:=e ▸ i ▸ j
theorem Bxs.put (g:Bxs w b t l) (f:Nat) (v:Value):Bxs (w.setCell ⟨b,f,none⟩ v) b t (l.set f v):=by
 have d:=heap_setCell_same w b f l.toArray t v g;rw[List.setIfInBounds_toArray] at d;exact d
theorem Bxs.bx {d f:Value} (g:Bxs w b t [d,f]):Bx w b t d f:=g
abbrev J4 (s1:Bool) (a1:Option Addr) (n1 c1:Nat) (s2:Bool) (a2:Option Addr) (n2 c2:Nat):Value:=.agg #[.bool s1,.slice a1 n1 c1,.bool s2,.slice a2 n2 c2]
end Limb
namespace Limb
open Go.RowKit Go.Sort Go.ChangeShapes Go.WideShapes Go.ChangeAt
theorem jcf:prog.cellsOf 32=4:=by kernel_rfl
theorem jcg {E:Type} {h:TypeId × Value->E} {z:World} {r:Nat->Bool} {q:Bool} {k:Nat} {x:List Value} {H:DataW E × List MemPlace}
  (B:DataW.trod h prog z 0 r q k 30 x=some H):∃ y a n c o,x=[.bool y,.slice a n c]/\Rd z a n o/\n<=c:=by
 obtain⟨s,F,_,_,f,u,i⟩:=DataW.trod_struct underlying30 B;have f:x.length=2:=f.trans jfk
 obtain⟨d,g,rfl⟩:∃ d g,x=[d,g]:=by
  match x,f with
  | [d,g],_=>exact⟨d,g,rfl⟩
 have m:DataW.trod h prog z 0 r q F 4 (([d,g].drop 0).take (prog.cellsOf 4))=s[0]?:=i 0 _ rfl;have p:DataW.trod h prog z 0 r q F 28 (([d,g].drop 1).take (prog.cellsOf 28))=s[1]?:=i 1 _ rfl;have G:s.length=2:=u;rw[List.getElem?_eq_getElem Zo] at m;rw[List.getElem?_eq_getElem Zo] at p;rw[jji] at m;rw[jjj] at p;obtain⟨y,j,_⟩:=DataW.trod_bool underlying4 m;obtain⟨a,n,c,o,A,D,C⟩:=open_list (v:=g) p
 have j:d=.bool y:=by
  have:[d]=[Value.bool y]:=j
  simpa using this
 exact⟨y,a,n,c,o,by rw[j,A],D,C⟩
theorem jhd {O:Type} {r:TypeId × Value->O} {G:World} {E:Nat->Bool} {B:Bool} {y:Nat} {I:List Value} {R:DataW O × List MemPlace}
  (J:DataW.trod r prog G 0 E B y 32 I=some R):∃ u m j c1 C x o k c2 D,I=[.bool u,.slice m j c1,.bool x,.slice o k c2]/\Rd G m j C/\j<=c1/\Rd G o k D/\k<=c2:=by
 obtain⟨F,P,_,_,d,H,s⟩:=DataW.trod_struct underlying32 J;have d:I.length=4:=d.trans jcf
 obtain⟨f,g,h,i,rfl⟩:∃ f g h i,I=[f,g,h,i]:=by
  match I,d with
  | [f,g,h,i],_=>exact⟨f,g,h,i,rfl⟩
 have z:DataW.trod r prog G 0 E B P 30 (([f,g,h,i].drop 0).take (prog.cellsOf 30))=F[0]?:=s 0 _ rfl;have A:DataW.trod r prog G 0 E B P 30 (([f,g,h,i].drop 2).take (prog.cellsOf 30))=F[1]?:=s 1 _ rfl;have Q:F.length=2:=H;rw[List.getElem?_eq_getElem Zo] at z;rw[List.getElem?_eq_getElem Zo] at A;rw[jfk] at z A;obtain⟨u,m,j,c1,C,p,M,K⟩:=jcg z;obtain⟨x,o,k,c2,D,q,N,L⟩:=jcg A;have p:[f,g]=[.bool u,.slice m j c1]:=p;have q:[h,i]=[.bool x,.slice o k c2]:=q;simp only[List.cons.injEq,and_true] at p q;exact⟨u,m,j,c1,C,x,o,k,c2,D,by rw[p.1,p.2,q.1,q.2],M,K,N,L⟩
end Limb
namespace Limb
open Go.RowKit Go.Sort Go.FreshH
open Classical in
theorem jao (P:Bool) (U:Option Addr) (h c1:Nat) (o1:Nat->Int) (F:Bool) (L:Option Addr) (g c2:Nat) (o2:Nat->Int) (d:World)
  (h1:Rd d U h o1) (bg:h<=10000000) (a5:h<=c1) (h2:Rd d L g o2) (bh:g<=10000000) (a6:g<=c2) :
  Cl 191 #[Jv P U h c1,Jv F L g c2] d (VK d (Int.gcd (Jp P h o1) (Jp F g o2):Nat)):=by
 obtain⟨x1,d1,r1,l1,m1,O1⟩:=Xw P U h c1 o1 d h1 Zo a5;obtain⟨x2,d2,r2,l2,m2,O2⟩:=Xw F L g c2 o2 d h2 Zo a6
 generalize Jp P h o1=z1 at r1 l1 m1 O1 ⊢
 generalize Jp F g o2=z2 at r2 l2 m2 O2 ⊢
 have HR:=qh<|And.intro r1 r2;have af:=qh (show Ja z1.natAbs<=10000000/\Ja z2.natAbs<=10000000 by omega);have az:=qh O1;have aA:=qh O2;obtain⟨be,hG⟩:=gn (Int.gcd z1 z2:Nat);rw[<- hG];have aT:=qh hG;have B1:=(((Bx.new d 30 (.bool P) (.slice U h c1)).alloc (.cells #[.bool F,.slice L g c2] 30)).alloc (.cells #[.bool false,.slice none 0 0] 30));have B2:=((Bx.Zu d (.cells #[.bool P,.slice U h c1] 30) 30 (.bool F) (.slice L g c2)).alloc (.cells #[.bool false,.slice none 0 0] 30));have B3:=(Bx.new3 d (.cells #[.bool P,.slice U h c1] 30) (.cells #[.bool F,.slice L g c2] 30) 30 (.bool false) (.slice none 0 0));clear O1 O2 r1 r2 l1 l2 m1 m2 h1 h2 hG;go_enter func191,ntmps191
 go_upto_region 1 with (fail)
 obtain⟨W,hW⟩:=gn (((d.alloc (.cells #[.bool P,.slice U h c1] 30)).alloc (.cells #[.bool F,.slice L g c2] 30)).alloc (.cells #[.bool false,.slice none 0 0] 30));have G1:=qh ((zk.alloc (by go_size) _ |>.alloc (by go_size) _ |>.alloc (by go_size) _):Bl d (((d.alloc (.cells #[.bool P,.slice U h c1] 30)).alloc (.cells #[.bool F,.slice L g c2] 30)).alloc (.cells #[.bool false,.slice none 0 0] 30)))
 have aJ:d.heap.size+3=W.heap.size:=by rw[hW];simp
 rw[<- hW] at B1 B2 B3 G1;rw[<- hW];have k:=qh B1;have R:=qh B2;have m:=qh B3;have T:=qh aJ;clear hW B1 B2 B3 aJ;obtain⟨o,q,r,s⟩:=k.o.all;go_wp2_with fail
 refine(az.o _ G1.o).mono ?_;rintro e w1 ⟨rfl,an⟩;have TW:=qh<|XK (decide (z1<0)) x1 (Ja z1.natAbs) d1 (dgi z1.natAbs) w1 (HR.o.1.below (G1.o.trans (an.mono G1.o.size))) (Zh af);have f:=qh an;clear an az;go_wp2_with fail
 refine TW.o.mono ?_;rintro e w2 ⟨t1,e1,rfl,ho,-,aK⟩;have S:=qh<|ho.mono f.o.size;have f:=qk f aK;have B:=k.o.below f.o k.o.lt;clear ho aK TW o q r s;obtain⟨o,q,r,s⟩:=B.all;clear B
 go_upto_region 2 with (fail)
 obtain⟨a4,hV⟩:=gn ((w2.setCell ⟨d.heap.size,0,none⟩ (.bool (decide (z1<0)))).setCell ⟨d.heap.size,1,none⟩ (.slice t1 (Ja z1.natAbs) e1));have A:=T.o;have ai:=qh (show Bx a4 d.heap.size 30 (.bool (decide (z1<0))) (.slice t1 (Ja z1.natAbs) e1) by rw[hV];exact(k.o.below f.o k.o.lt).set _ _);have ab:=qh (show Bx a4 (d.heap.size+1) 30 (.bool F) (.slice L g c2) by rw[hV];exact((R.o.below f.o R.o.lt).oz).oz);have aj:=qh (show Bx a4 (d.heap.size+1+1) 30 (.bool false) (.slice none 0 0) by rw[hV];exact((m.o.below f.o m.o.lt).oz).oz);have aG:=qh (show Own 128 a4 W.heap.size t1 (Ja z1.natAbs) e1 (dgi z1.natAbs) by rw[hV];exact(S.o.oz).oz);have G:=qh<|bq hV (((G1.o.trans (f.o.mono G1.o.size)).setCell zj _).setCell zj _);have aF:=qh (show W.heap.size<=a4.heap.size by rw[hV];simp only[World.size_setCell];exact f.o.size);rw[<- hV];clear hV A o q r s S f k R m;obtain⟨u,i,x,y⟩:=ab.o.all;go_wp2_with fail
 refine(aA.o _ G.o).mono ?_;rintro e w3 ⟨rfl,ao⟩;have TW:=qh<|XK (decide (z2<0)) x2 (Ja z2.natAbs) d2 (dgi z2.natAbs) w3 (HR.o.2.below (G.o.trans (ao.mono G.o.size))) (Zh af);have f:=qh ao;clear ao aA;go_wp2_with fail
 refine TW.o.mono ?_;rintro e w4 ⟨t2,e2,rfl,ho,-,z⟩;have aE:=qh<|ho.mono (zm aF.o f.o.size);have f:=qk f z;have I:=ab.o.below f.o ab.o.lt;have S:=qh<|aG.o.below f.o;have B:=qh<|ai.o.below f.o ai.o.lt;have J:=qh<|aj.o.below f.o aj.o.lt;have aw:=qh I;clear ho z TW u i x y;obtain⟨u,i,x,y⟩:=I.all;clear I;go_wp2_with fail
 have A:=T.o;have K1:=qh<|(B.o.other (a:=⟨d.heap.size+1,0,none⟩) Zd (.bool (decide (z2<0)))).other (a:=⟨d.heap.size+1,1,none⟩) Zd (.slice t2 (Ja z2.natAbs) e2);have K2:=qh<|aw.o.set (.bool (decide (z2<0))) (.slice t2 (Ja z2.natAbs) e2);have K3:=qh<|(J.o.other (a:=⟨d.heap.size+1,0,none⟩) Zd (.bool (decide (z2<0)))).other (a:=⟨d.heap.size+1,1,none⟩) Zd (.slice t2 (Ja z2.natAbs) e2);have aZ:=qh<|(S.o.other (p:=⟨d.heap.size+1,0,none⟩) Zd (.bool (decide (z2<0)))).other (p:=⟨d.heap.size+1,1,none⟩) Zd (.slice t2 (Ja z2.natAbs) e2);have a0:=qh<|(aE.o.other (p:=⟨d.heap.size+1,0,none⟩) Zd (.bool (decide (z2<0)))).other (p:=⟨d.heap.size+1,1,none⟩) Zd (.slice t2 (Ja z2.natAbs) e2);have KG:=qh<|((G.o.trans (f.o.mono G.o.size)).setCell (p:=⟨d.heap.size+1,0,none⟩) Zd (.bool (decide (z2<0)))).setCell (p:=⟨d.heap.size+1,1,none⟩) Zd (.slice t2 (Ja z2.natAbs) e2);clear A u i x y S aE B J aw ai ab aj aG G aF f
 go_loopw [] (λwr=>∃ (Q j:Int) (ax C:Option Addr) (dx D:Nat),Int.gcd Q j=be/\(Ja Q.natAbs<=10000000/\Ja j.natAbs<=10000000)/\Own 128 wr W.heap.size ax (Ja Q.natAbs) dx (dgi Q.natAbs)/\Own 128 wr W.heap.size C (Ja j.natAbs) D (dgi j.natAbs) /\
   Bx wr d.heap.size 30 (.bool (decide (Q<0))) (.slice ax (Ja Q.natAbs) dx)/\Bx wr (d.heap.size+1) 30 (.bool (decide (j<0))) (.slice C (Ja j.natAbs) D)/\Bx wr (d.heap.size+1+1) 30 (.bool false) (.slice none 0 0)/\Bl d wr) (λwr=>gmeas wr (d.heap.size+1))
 case atStart=>exact⟨z1,z2,t1,t2,e1,e2,aT.o.symm,af.o,aZ.o,a0.o,K1.o,K2.o,K3.o,KG.o⟩
 case round =>
  obtain⟨Q,j,ax,C,dx,D,hg,aM,hx,hy,ak,ac,am,hb⟩:=hrel;obtain⟨wo,rfl⟩:=gn (wr:World);have HX:=qh hx;have HY:=qh hy;have HG:=qh hg;have HB:=qh hb;have HL:=qh aM;have k:=qh ak;have R:=qh ac;have m:=qh am;have aU:=qh<|Ku ac hy.rd;obtain⟨o,q,r,s⟩:=ak.all;obtain⟨u,i,x,y⟩:=ac.all;obtain⟨V,X,Y,Z⟩:=am.all;clear hx hy hg hb ak ac am aM;obtain⟨Ly,ad⟩:=gn (Ja j.natAbs);rw[<- ad] at i;have ag:=qh ad
  have bi:Ly<=10000000:=by rw[ad];exact HL.o.2
  clear ad;by_cases aO:Ly=0
  ·subst aO;have NU:=qh<|Xk false false ax (Ja Q.natAbs) dx Q.natAbs W.heap.size (dgi Q.natAbs) wo HX.o (Jr _ _) (Zh HL) (Jz _) rfl
   have H:j=0:=by have:=QI.1 ag.o.symm;omega
   have hG:be=Q.natAbs:=by rw[<- HG.o,H,Int.gcd_zero_right]
   have av:=qh hG;clear hG H;go_wp2_with fail
   refine NU.o.mono ?_;rintro e w5 ⟨rfl,ae⟩;have J:=m.o.bl ae;have aV:=qh J;have aW:=qh<|HX.o.below ae;have aR:=qh<|HB.o.trans (ae.mono HB.o.size);clear ae NU o q r s u i x y V X Y Z;obtain⟨V,X,Y,Z⟩:=J.all;clear J;go_wp2_with fail
   have A:=T.o;have HH:=qh<|aV.o.set (.bool false) (.slice ax (Ja Q.natAbs) dx);refine bodyPost_ret (Je rfl _ _ _ _ _ _ _ rfl HH.o underlying30 rfl Zk) rfl ⟨ax,dx,?_,?_,?_⟩
   ·rw[Int.natAbs_natCast,av.o,zo (show ¬((Q.natAbs:Nat):Int)<0 by omega)]
   ·rw[Int.natAbs_natCast,av.o];exact((aW.o.oz).oz).mono Zo
   ·exact(aR.o.sc).sc
  ·have H:¬j=0:=λbb=>aO (by rw[ag.o,bb];exact Jw)
   have bc:0<Ly:=Zo;have aH:=qh H;have DV:=qh<|Va Q j ax C dx D wo HX.o.rd HL.o.1 HX.o.le HY.o.rd HL.o.2 HY.o.le H;rw[<- ag.o] at DV;clear H;go_wp2_with fail
   refine DV.o.mono ?_;rintro e w4 ⟨aq,cq,N,O,rfl,-,au,z⟩;obtain⟨K,hR⟩:=gn (Q%j);obtain⟨bf,hQ⟩:=gn (Q/j);rw[<- hR] at au ⊢;rw[<- hQ];have A:=T.o
   have aN:W.heap.size<=wo.heap.size:=by have:=m.o.lt;omega
   have aB:=qh<|au.mono aN;have aX:=qh hR;have aa:=qh z;have aD:=qh (show K.natAbs<j.natAbs by have h1:=Int.emod_nonneg Q aH.o;have h2:=Int.emod_lt Q aH.o;omega);have B:=k.o.bl z;have I:=R.o.bl z;have HM:=qh<|And.intro B (And.intro I (m.o.bl z));clear au hR hQ z DV A aN o q r s u i x y V X Y Z
   go_upto_region 5 with (fail)
   obtain⟨bj,hU⟩:=gn ((w4.alloc (.cells #[.bool (decide (bf<0)),.slice aq (Ja bf.natAbs) cq] 30)).alloc (.cells #[.bool (decide (K<0)),.slice N (Ja K.natAbs) O] 30));have E:=bq hU ((zk.alloc zj _).alloc (by simp) _);have aC:=qh (show Bx bj (w4.heap.size+1) 30 (.bool (decide (K<0))) (.slice N (Ja K.natAbs) O) by rw[hU];exact Bx.Zu w4 _ _ _ _);rw[<- hU];have B:=HM.o.1.below E HM.o.1.lt;have I:=HM.o.2.1.below E HM.o.2.1.lt;have J:=HM.o.2.2.below E HM.o.2.2.lt;have ah:=qh<|And.intro B (And.intro I J);have aY:=qh<|(HY.o.below aa.o).below E;have aP:=qh<|aB.o.below E;have aS:=qh<|HB.o.trans ((aa.o.trans (E.mono aa.o.size)).mono HB.o.size);obtain⟨br,aL⟩:=gn (w4.heap.size+1)
   have aQ:d.heap.size+3<br:=by have h1:=m.o.lt;have h2:=aa.o.size;omega
   rw[<- aL] at aC ⊢;clear hU E J HM aB;obtain⟨o,q,r,s⟩:=B.all;obtain⟨u,i,x,y⟩:=I.all;obtain⟨V,X,Y,Z⟩:=aC.o.all;clear B I;have a7:¬br=d.heap.size:=Zo;have a8:¬br=d.heap.size+1:=Zo;have a9:¬d.heap.size=br:=Zo;have ba:¬d.heap.size+1=br:=Zo;clear aL aQ;go_wp2_with fail
   clear a7 a8 a9 ba;have A:=T.o;have m1:=(((ah.o.1.set (.bool (decide (j<0))) (.slice C (Ja j.natAbs) D)).other (a:=⟨d.heap.size+1,0,none⟩) Zd (.bool (decide (K<0)))).other (a:=⟨d.heap.size+1,1,none⟩) Zd (.slice N (Ja K.natAbs) O));have m2:=(((ah.o.2.1.other (a:=⟨d.heap.size,0,none⟩) Zd (.bool (decide (j<0)))).other (a:=⟨d.heap.size,1,none⟩) Zd (.slice C (Ja j.natAbs) D)).set (.bool (decide (K<0))) (.slice N (Ja K.natAbs) O));have m3:=((((ah.o.2.2.other (a:=⟨d.heap.size,0,none⟩) Zd (.bool (decide (j<0)))).other (a:=⟨d.heap.size,1,none⟩) Zd (.slice C (Ja j.natAbs) D)).other (a:=⟨d.heap.size+1,0,none⟩) Zd (.bool (decide (K<0)))).other (a:=⟨d.heap.size+1,1,none⟩) Zd (.slice N (Ja K.natAbs) O));have g1:=((((aS.o.setCell (p:=⟨d.heap.size,0,none⟩) zj (.bool (decide (j<0)))).setCell (p:=⟨d.heap.size,1,none⟩) zj (.slice C (Ja j.natAbs) D)).setCell (p:=⟨d.heap.size+1,0,none⟩) Zd (.bool (decide (K<0)))).setCell (p:=⟨d.heap.size+1,1,none⟩) Zd (.slice N (Ja K.natAbs) O));have h:=((((aY.o.other (p:=⟨d.heap.size,0,none⟩) Zd (.bool (decide (j<0)))).other (p:=⟨d.heap.size,1,none⟩) Zd (.slice C (Ja j.natAbs) D)).other (p:=⟨d.heap.size+1,0,none⟩) Zd (.bool (decide (K<0)))).other (p:=⟨d.heap.size+1,1,none⟩) Zd (.slice N (Ja K.natAbs) O));have g:=((((aP.o.other (p:=⟨d.heap.size,0,none⟩) Zd (.bool (decide (j<0)))).other (p:=⟨d.heap.size,1,none⟩) Zd (.slice C (Ja j.natAbs) D)).other (p:=⟨d.heap.size+1,0,none⟩) Zd (.bool (decide (K<0)))).other (p:=⟨d.heap.size+1,1,none⟩) Zd (.slice N (Ja K.natAbs) O))
   have P1:=qh m1;have P2:=qh m2;have P3:=qh m3;have PG:=qh g1;have a3:=qh h;have aI:=qh g;clear m1 m2 m3 g1 h g o q r s u i x y V X Y Z A;go_roundw
   case rel =>
    refine⟨j,K,C,N,D,O,?_,⟨HL.o.2,zm (JP (Nat.le_of_lt aD.o)) HL.o.2⟩,a3.o,aI.o,P1.o,P2.o,P3.o,PG.o⟩;rw[aX.o,<- jan];exact HG.o
   case measure =>
    rw[aU.o];have bb:=Ku (M:=K.natAbs) P2.o aI.o.rd;exact Nat.lt_of_le_of_lt (Nat.le_of_eq bb) aD.o
def DivP (w:World) (c q r:Int) (e:Ending) (w':World):Prop :=
 ∃ aq ar,e=.returned (.tuple #[Jv (decide (q<0)) aq (Ja q.natAbs) (Ja q.natAbs),Jv (decide (r<0)) ar (Ja r.natAbs) (Ja r.natAbs),.int .i64 c]) /\
  Own 128 w' w.heap.size aq (Ja q.natAbs) (Ja q.natAbs) (dgi q.natAbs)/\Own 128 w' w.heap.size ar (Ja r.natAbs) (Ja r.natAbs) (dgi r.natAbs)/\XA aq ar/\Bl w w'
theorem YZ (d:World) (b:Nat):Own 128 d b none (Ja (Int.natAbs 0)) 0 (dgi (Int.natAbs 0)):=by
 rw[show Int.natAbs 0=0 from rfl,Jw];exact⟨zj,Or.inl ⟨rfl,rfl,rfl⟩,λf hi=>Zo⟩
theorem Vb (d f:Int):Ja (Int.gcd d f)<=Ja d.natAbs+Ja f.natAbs:=by
 by_cases g:d=0
 ·subst g;rw[Int.gcd_zero_left];have:=Jw;omega
 ·have h:Int.gcd d f ∣ d.natAbs:=Int.natCast_dvd_natCast.1 (by rw[Int.dvd_natAbs];exact Int.gcd_dvd_left d f);have:=JP (Nat.le_of_dvd Zo h);omega
theorem jdc (z:Int):decide (Js z 1=0)=decide (z=1):=by
 rcases Int.lt_trichotomy z 1 with d | d | d
 ·rw[JK d];exact decide_eq_decide.2 Zo
 ·rw[J7 d];exact decide_eq_decide.2 Zo
 ·rw[JS d];exact decide_eq_decide.2 Zo
theorem unit_any (B:Bool) (a:Option Addr) (n J:Nat) (o:Nat->Int) (C:World) (x:Rd C a n o) (Q:n<=10000000) (N:n<=J) :
  Cl 179 #[Jv B a n J] C λe w'=>e=.returned (.bool (decide (Jp B n o=1)))/\Bl C w':=by
 obtain⟨z,A⟩:=gn (Jp B n o);obtain⟨one,d⟩:=gn (1:Int);have E:=qh<|Bx.new C 30 (.bool B) (.slice a n J);obtain⟨W,q⟩:=gn (C.alloc (.cells #[.bool B,.slice a n J] 30));have g:=bq q (zk.alloc zj _);rw[<- q] at E;have I:=qh (show ∀ w',Cl 106 #[.int .i64 1] w' (VJ w' one) from λw'=>by rw[d];exact X7 1 w' Zo Zo);have G:=qh (show Ja one.natAbs<=1 by rw[d];exact Xg Ze);have p:=qh (λ(w':World) (f:Bl W w') (m:Option Addr) (y:Own 128 w' W.heap.size m (Ja one.natAbs) (Ja one.natAbs) (dgi one.natAbs))=>Y7 B a n J o (decide (one<0)) m (Ja one.natAbs) (Ja one.natAbs) (dgi one.natAbs) w' (x.below (g.trans (f.mono g.size))) Zo N y.rd (Zh G) zj);rw[Jl,<- A] at p;obtain⟨M,j⟩:=gn (Js z one);rw[<- j] at p
 have k:decide (M=0)=decide (z=1):=by rw[j,d];exact jdc z
 rw[<- A];have u:=qh k;have r:=qh g;have H:=qh q;clear A d j k g q x;go_enter func179,ntmps179
 go_upto_region 1 with (fail)
 rw[<- H.o];clear H
 refine Ji 2 (JI [(1,Sp.made (λm:Option Addr=>Jv (decide (one<0)) m (Ja one.natAbs) (Ja one.natAbs)) (λm w'=>Own 128 w' W.heap.size m (Ja one.natAbs) (Ja one.natAbs) (dgi one.natAbs)))]) (λw'=>Bl W w') Zk Zk
  (Jb (Sp.Jf λm C w' x f=>x.below f) Jh) (λ_ _ x f=>x.trans (f.mono x.size)) (zk.drew) ?_
 simp only[zx,zy,zv,zw];refine rdw (λw' h=>by obtain⟨S,U,V,X⟩:=(E.o.bl h).all;go_simp;try rfl) ?_
 (refine Jc rfl rfl (λw' K=>?_) ?_;· (have h:=Has.world K;go_simp;((refine(I.o w').mono ?_;rintro e P ⟨a,rfl,y,-,f⟩;exact⟨_,rfl,⟨⟨a,rfl⟩,⟨a,rfl,y.mono h.size⟩⟩,f⟩))))
 rintro _ ⟨m,rfl⟩
 conv=>arg 10;simp only[Act.put,zq0,zq1,zq2]
 refine Jn (λO i hF=>?_);have D:=qh<|p.o O i m (X8 (T:=128) (b:=W.heap.size) (s:=decide (one<0)) (L:=Ja one.natAbs) (o:=dgi one.natAbs) (a:=m) (hF 1));have HG:=qh<|r.o.trans (i.mono r.o.size);clear hF i p I;go_wp2_with fail
 refine D.o.mono ?_;rintro e R ⟨rfl,s⟩;have F:=qh<|HG.o.trans (s.mono HG.o.size);clear s D;go_wp2;go_ret;exact⟨by rw[<- u.o];first | rfl | (congr 1;simp),F.o⟩
theorem Jg {d:World} {b:Nat} {k:Bool} {g:Option Addr} {i c1:Nat} {m:Bool} {h:Option Addr} {j c2:Nat} (f:Bxs d b 32 [.bool k,.slice g i c1,.bool m,.slice h j c2]) :
  d.cell? ⟨b,0,none⟩=some (.bool k)/\d.cell? ⟨b,1,none⟩=some (.slice g i c1)/\d.cell? ⟨b,2,none⟩=some (.bool m)/\d.cell? ⟨b,3,none⟩=some (.slice h j c2)/\(∀ o,d.frozen? ⟨b,o,none⟩=false)/\b<d.heap.size :=
 ⟨f.cell rfl,f.cell rfl,f.cell rfl,f.cell rfl,f.fz,f.lt⟩
open Classical in
theorem ji0 (j:Bool) (h:Nat) (i:Nat->Int) (g:Bool) (d:Nat) (f:Nat->Int) (k:okN j h i) (m:okN g d f) (o:0<Jp g d f) :
  decide (okF j h i g d f)=decide (((Int.gcd (Jp j h i) (Jp g d f):Nat):Int)=1):=by
 refine decide_eq_decide.2 ⟨λp=>by rw[p.2.2.2];rfl,λp=>⟨k,m,o,Zo⟩⟩
open Classical in
theorem XB (x:Bool) (G:Option Addr) (s c1:Nat) (y:Nat->Int) (r:Bool) (C:Option Addr) (i c2:Nat) (u:Nat->Int) (R:World)
  (N:Rd R G s y) (ab:s<=5000000) (Q:s<=c1) (K:Rd R C i u) (ac:i<=5000000) (L:i<=c2) :
  Cl 142 #[J4 x G s c1 r C i c2] R λe w'=>e=.returned (.bool (decide (okF x s y r i u)))/\Bl R w':=by
 have h:=qh<|Bxs.new R 32 [.bool x,.slice G s c1,.bool r,.slice C i c2];obtain⟨W,P⟩:=gn (R.alloc (.cells #[.bool x,.slice G s c1,.bool r,.slice C i c2] 32));have g:=qh<|bq P (zk.alloc zj _);rw[<- P] at h;have M:=qh P;have d:=qh<|Below.refl W.heap.size W;have A:=qh (λ(w':World) (f:Bl W w')=>Qw x G s c1 y w' (N.below (g.o.trans (f.mono g.o.size))) Zo);have B:=qh (λ(w':World) (f:Bl W w')=>Qw r C i c2 u w' (K.below (g.o.trans (f.mono g.o.size))) Zo);have S:=qh (λ(w':World) (f:Bl W w')=>Kr r C i c2 u w' (K.below (g.o.trans (f.mono g.o.size))) Zo L);have V:=qh (λ(w':World) (f:Bl W w')=>jiz x G s c1 y r C i c2 u w' (N.below (g.o.trans (f.mono g.o.size))) Zo Q (K.below (g.o.trans (f.mono g.o.size))) Zo L)
 have X:=qh (show Ja (Int.gcd (Jp x s y) (Jp r i u))<=10000000 from by
  obtain⟨_,_,_,l1,_⟩:=XM x G s c1 y R N Zo Q;obtain⟨_,_,_,l2,_⟩:=XM r C i c2 u R K Zo L;have:=Vb (Jp x s y) (Jp r i u)
  omega)
 clear N K P;by_cases E:okN x s y
 ·rw[decide_eq_true E] at A;by_cases H:okN r i u
  ·rw[decide_eq_true H] at B;obtain⟨Z,D⟩:=gn (Js (Jp r i u) 0);rw[<- D] at S;by_cases I:0<Jp r i u
   ·have aa:decide (0<Z)=true:=by rw[D,JS I];rfl
    obtain⟨U,O⟩:=gn ((Int.gcd (Jp x s y) (Jp r i u):Nat):Int);rw[<- O] at V;have Y:=qh (show Ja U.natAbs<=10000000 by rw[O,Int.natAbs_natCast];exact X.o);have z:=qh<|ji0 x s y r i u E H I;rw[<- O] at z;clear O D E H I;go_enter func142,ntmps142
    go_upto_region 1 with (fail)
    rw[<- M.o];obtain⟨j,k,m,o,p,q⟩:=Jg h.o;go_wp2_with fail
    refine(A.o _ d.o).mono ?_;rintro e w' ⟨rfl,f⟩;have d:=qk d f;clear f j k m o p q;obtain⟨j,k,m,o,p,q⟩:=Jg (h.o.below d.o h.o.lt);obtain⟨F,rfl⟩:=gn w';go_wp2_with fail
    refine(B.o _ d.o).mono ?_;rintro e w' ⟨rfl,f⟩;have d:=qk d f;clear f j k m o p q;obtain⟨j,k,m,o,p,q⟩:=Jg (h.o.below d.o h.o.lt);obtain⟨F,rfl⟩:=gn w';go_wp2_with fail
    refine(S.o _ d.o).mono ?_;rintro e w' ⟨rfl,f⟩;have d:=qk d f;clear f j k m o p q;obtain⟨j,k,m,o,p,q⟩:=Jg (h.o.below d.o h.o.lt);obtain⟨F,rfl⟩:=gn w';go_wp2_with fail
    refine(V.o _ d.o).mono ?_;rintro e w' ⟨ad,rfl,ho,-,f⟩;have T:=qh<|unit_any (decide (U<0)) ad (Ja U.natAbs) (Ja U.natAbs) (dgi U.natAbs) w' ho.rd Y.o zj;rw[Jl] at T;have d:=qk d f;clear f ho j k m o p q;go_wp2_with fail
    refine T.o.mono ?_;rintro e w2 ⟨rfl,f⟩;have d:=qk d f;clear f T;go_wp2;go_ret;exact⟨by rw[z.o];first | rfl | (congr 1;simp),g.o.trans (d.o.mono g.o.size)⟩
   ·have aa:decide (0<Z)=false:=by
     rw[D];refine zo ?_
     rcases Int.lt_trichotomy (Jp r i u) 0 with J | J | J
     ·rw[JK J];omega
     ·rw[J7 J];omega
     ·exact absurd J I
    have z:=qh (show decide (okF x s y r i u)=false from zo λJ=>I J.2.2.1);clear D E H I;go_enter func142,ntmps142
    go_upto_region 1 with (fail)
    rw[<- M.o];obtain⟨j,k,m,o,p,q⟩:=Jg h.o;go_wp2_with fail
    refine(A.o _ d.o).mono ?_;rintro e w' ⟨rfl,f⟩;have d:=qk d f;clear f j k m o p q;obtain⟨j,k,m,o,p,q⟩:=Jg (h.o.below d.o h.o.lt);obtain⟨F,rfl⟩:=gn w';go_wp2_with fail
    refine(B.o _ d.o).mono ?_;rintro e w' ⟨rfl,f⟩;have d:=qk d f;clear f j k m o p q;obtain⟨j,k,m,o,p,q⟩:=Jg (h.o.below d.o h.o.lt);obtain⟨F,rfl⟩:=gn w';go_wp2_with fail
    refine(S.o _ d.o).mono ?_;rintro e w' ⟨rfl,f⟩;have d:=qk d f;clear f j k m o p q;obtain⟨j,k,m,o,p,q⟩:=Jg (h.o.below d.o h.o.lt);obtain⟨F,rfl⟩:=gn w';go_wp2;go_ret;exact⟨by rw[z.o];rfl,g.o.trans (d.o.mono g.o.size)⟩
  ·rw[zo H] at B;have z:=qh (show decide (okF x s y r i u)=false from zo λJ=>H J.2.1);clear E H;go_enter func142,ntmps142
   go_upto_region 1 with (fail)
   rw[<- M.o];obtain⟨j,k,m,o,p,q⟩:=Jg h.o;go_wp2_with fail
   refine(A.o _ d.o).mono ?_;rintro e w' ⟨rfl,f⟩;have d:=qk d f;clear f j k m o p q;obtain⟨j,k,m,o,p,q⟩:=Jg (h.o.below d.o h.o.lt);obtain⟨F,rfl⟩:=gn w';go_wp2_with fail
   refine(B.o _ d.o).mono ?_;rintro e w' ⟨rfl,f⟩;have d:=qk d f;clear f j k m o p q;obtain⟨j,k,m,o,p,q⟩:=Jg (h.o.below d.o h.o.lt);obtain⟨F,rfl⟩:=gn w';go_wp2;go_ret;exact⟨by rw[z.o];rfl,g.o.trans (d.o.mono g.o.size)⟩
 ·rw[zo E] at A;have z:=qh (show decide (okF x s y r i u)=false from zo λJ=>E J.1);clear E;go_enter func142,ntmps142
  go_upto_region 1 with (fail)
  rw[<- M.o];obtain⟨j,k,m,o,p,q⟩:=Jg h.o;go_wp2_with fail
  refine(A.o _ d.o).mono ?_;rintro e w' ⟨rfl,f⟩;have d:=qk d f;clear f j k m o p q;obtain⟨j,k,m,o,p,q⟩:=Jg (h.o.below d.o h.o.lt);obtain⟨F,rfl⟩:=gn w';go_wp2;go_ret;exact⟨by rw[z.o];rfl,g.o.trans (d.o.mono g.o.size)⟩
def Ki (w:World) (p q:Int) (e:Ending) (w':World):Prop :=
 ∃ a1 a2,e=.returned (J4 (decide (p<0)) a1 (Ja p.natAbs) (Ja p.natAbs) (decide (q<0)) a2 (Ja q.natAbs) (Ja q.natAbs))/\Own 128 w' w.heap.size a1 (Ja p.natAbs) (Ja p.natAbs) (dgi p.natAbs) /\
  Own 128 w' w.heap.size a2 (Ja q.natAbs) (Ja q.natAbs) (dgi q.natAbs)/\XA a1 a2/\Bl w w'
def jbe (w:World) (B0:Nat) (p q:Int) (e:Ending) (w':World):Prop :=
 ∃ a1 c1 a2 c2,e=.returned (J4 (decide (p<0)) a1 (Ja p.natAbs) c1 (decide (q<0)) a2 (Ja q.natAbs) c2)/\RdS w' B0 w.heap.size a1 (Ja p.natAbs) (dgi p.natAbs)/\Ja p.natAbs<=c1 /\
  RdS w' B0 w.heap.size a2 (Ja q.natAbs) (dgi q.natAbs)/\Ja q.natAbs<=c2/\Bl w w'
theorem RdS.up {m:World} {g f d:Nat} {a:Option Addr} {n:Nat} {o:Nat->Int} (h:RdS m g f a n o) (j:d<=f):RdS m g d a n o:=⟨h.rd,λi p k=>(h.far i p k).imp id (λh=>zm j h)⟩
theorem Own.rdS {m:Nat} {k:World} {base:Nat} {a:Option Addr} {n d:Nat} {o:Nat->Int} (j:Own m k base a n d o) (i f:Nat) (g:f<=base):RdS k i f a n o:=⟨j.rd,λ_ p h=>Or.inr (zm g (j.blk h).2.1)⟩
open Classical in
theorem ji1 (n:Int) (u:World) (r:-9223372036854775808<=n) (s:n<=9223372036854775807) :
  Cl 35 #[.int .i64 n] u (Ki u n 1):=by
 obtain⟨one,d⟩:=gn (1:Int);have z:=qh (λ(w':World)=>X7 n w' r s);have A:=qh (show ∀ w',Cl 106 #[.int .i64 1] w' (VJ w' one) from λw'=>by rw[d];exact X7 1 w' Zo Zo);rw[<- d];have k:=qh<|Bxs.new u 32 zFv;have h:=qh<|show Bl u (u.alloc (.cells zFv.toArray 32)) from zk.alloc zj _;obtain⟨W,m⟩:=gn (u.alloc (.cells zFv.toArray 32));rw[<- m] at k;rw[<- m] at h;have D:=qh m;clear r s d m;go_enter func35,ntmps35
 go_upto_region 1 with (fail)
 rw[<- D.o];go_wp2_with fail
 refine(z.o _).mono ?_;rintro e I ⟨B,rfl,q,-,p⟩;have f:=qh q;have g:=qh p;clear q p;go_wp2_with fail
 refine(A.o _).mono ?_;rintro e J ⟨C,rfl,j,-,i⟩
 have x:=qh (show XA B C from λQ R F G e=>by
  have r:=(f.o.blk F).2.2;have s:=(j.blk G).2.1
  omega)
 have f:=qh<|f.o.below i;have y:=qh<|j.mono g.o.size;have g:=qk g i;have o:=qh<|k.o.below g.o k.o.lt;clear j i;obtain⟨K,L,M,N,O,P⟩:=Jg o.o;go_wp2_with fail
 have H:=k.o.lt;have E:=h.o.trans (g.o.mono h.o.size);refine bodyPost_ret (Je rfl _ _ _ _ _ _ _ rfl ((((o.o.put 0 _).put 1 _).put 2 _).put 3 _) underlying32 rfl Zk) rfl ⟨B,C,rfl,?_,?_,x.o,?_⟩
 ·exact((((f.o.oz).oz).oz).oz).mono Zo
 ·exact((((y.o.oz).oz).oz).oz).mono Zo
 ·exact(((E.sc).sc).sc).sc
open Classical in
theorem fof2_ok (j:Bool) (h:Option Addr) (d c1:Nat) (p:Nat->Int) (k:Bool) (i:Option Addr) (f c2:Nat) (q:Nat->Int) (y:World) (o:Nat) (ab:o<=y.heap.size)
  (B:Rd y h d p) (X:d<=5000000) (G:d<=c1) (T:0<d->∀ E,h=some E->E.block<o) (C:Rd y i f q) (Y:f<=5000000) (H:f<=c2) (U:0<f->∀ E,i=some E->E.block<o) (D:okF j d p k f q) :
  Cl 102 #[J4 j h d c1 k i f c2] y (jbe y o (Jp j d p) (Jp k f q)):=by
 have I:=qh (λ(w':World) (V:Bl y w')=>XB j h d c1 p k i f c2 q w' (B.below V) X G (C.below V) Y H);rw[decide_eq_true D] at I;obtain⟨M,N,O⟩:=QD j d p D.1 B.rng;obtain⟨P,Q,R⟩:=QD k f q D.2.1 C.rng
 generalize Jp j d p=z1 at M N O ⊢
 generalize Jp k f q=z2 at P Q R ⊢
 have A:=qh<|And.intro (And.intro B T) (And.intro C U);have g:=qh<|And.intro (And.intro M (And.intro N O)) (And.intro P (And.intro Q R));clear D B C T U M N O P Q R;have z:=qh<|(Bxs.new y 32 [.bool j,.slice h d c1,.bool k,.slice i f c2]).alloc (.cells zFv.toArray 32);have s:=qh<|Bxs.new (y.alloc (.cells #[.bool j,.slice h d c1,.bool k,.slice i f c2] 32)) 32 zFv;obtain⟨W,x⟩:=gn ((y.alloc (.cells #[.bool j,.slice h d c1,.bool k,.slice i f c2] 32)).alloc (.cells zFv.toArray 32));have u:=qh<|bq x ((zk.alloc zj _).alloc (by simp) _);rw[<- x] at z;rw[<- x,World.size_alloc] at s;have HW:=qh x;clear x;go_enter func102,ntmps102
 go_upto_region 1 with (fail)
 rw[<- HW.o];obtain⟨x0,x1,x2,x3,x4,x5⟩:=Jg z.o;go_wp2_with fail
 refine(I.o _ u.o).mono ?_;rintro e Z ⟨rfl,m⟩;have GB:=qh m;have S:=qh<|z.o.bl m;have F:=qh<|s.o.bl m;clear m I x0 x1 x2 x3 x4 x5;obtain⟨x0,x1,x2,x3,x4,x5⟩:=Jg S.o;obtain⟨y0,y1,y2,y3,y4,y5⟩:=Jg F.o;go_wp2_with fail
 have ac:=z.o.lt;have aa:=s.o.lt;have K:=u.o.trans (GB.o.mono u.o.size);refine bodyPost_ret (Je rfl _ _ _ _ _ _ _ rfl ((((F.o.put 0 _).put 1 _).put 2 _).put 3 _) underlying32 rfl Zk) rfl ⟨h,c1,i,c2,?_,?_,?_,?_,?_,?_⟩
 ·rw[g.o.1.1,g.o.1.2.1,g.o.2.1,g.o.2.2.1];rfl
 ·rw[g.o.1.2.1];have r:RdS Z o (y.heap.size+2) h d (dgi z1.natAbs):=⟨(A.o.1.1.congr g.o.1.2.2).below K,λJ E L=>Or.inl (A.o.1.2 J E L)⟩;exact((((r.sz).sz).sz).sz).up Zo
 ·rw[g.o.1.2.1];exact G
 ·rw[g.o.2.2.1];have r:RdS Z o (y.heap.size+2) i f (dgi z2.natAbs):=⟨(A.o.2.1.congr g.o.2.2.2).below K,λJ E L=>Or.inl (A.o.2.2 J E L)⟩;exact((((r.sz).sz).sz).sz).up Zo
 ·rw[g.o.2.2.1];exact H
 ·exact(((K.sc).sc).sc).sc
open Classical in
theorem fof2_not (m:Bool) (j:Option Addr) (d c1:Nat) (G:Nat->Int) (o:Bool) (k:Option Addr) (f c2:Nat) (H:Nat->Int) (u:World) (C:Nat)
  (K:Rd u j d G) (Q:d<=5000000) (N:d<=c1) (L:Rd u k f H) (R:f<=5000000) (O:f<=c2) (P:¬okF m d G o f H) :
  Cl 102 #[J4 m j d c1 o k f c2] u (jbe u C 0 1):=by
 have D:=qh (λ(w':World) (M:Bl u w')=>XB m j d c1 G o k f c2 H w' (K.below M) Q N (L.below M) R O);rw[zo P] at D;obtain⟨one,g⟩:=gn (1:Int);obtain⟨S,h⟩:=gn (0:Int);have F:=qh (λ(w':World)=>ji1 0 w' Zo Zo);rw[<- g,<- h];have F:=qh (show ∀ w',Cl 35 #[.int .i64 0] w' (Ki w' S one) from λw'=>by rw[g,h];exact F.o w');clear P K L g h;have E:=qh<|(Bxs.new u 32 [.bool m,.slice j d c1,.bool o,.slice k f c2]).alloc (.cells zFv.toArray 32);have i:=qh<|Bxs.new (u.alloc (.cells #[.bool m,.slice j d c1,.bool o,.slice k f c2] 32)) 32 zFv;obtain⟨W,r⟩:=gn ((u.alloc (.cells #[.bool m,.slice j d c1,.bool o,.slice k f c2] 32)).alloc (.cells zFv.toArray 32));have q:=qh<|bq r ((zk.alloc zj _).alloc (by simp) _);rw[<- r] at E;rw[<- r,World.size_alloc] at i;have T:=qh r;clear r;go_enter func102,ntmps102
 go_upto_region 1 with (fail)
 rw[<- T.o];obtain⟨x0,x1,x2,x3,x4,x5⟩:=Jg E.o;go_wp2_with fail
 refine(D.o _ q.o).mono ?_;rintro e Z ⟨rfl,y⟩;have p:=qh y;clear y D x0 x1 x2 x3 x4 x5;go_wp2_with fail
 refine(F.o Z).mono ?_;rintro e w2 ⟨X,Y,rfl,A,B,-,z⟩;have I:=qh<|And.intro A B;have s:=p.o.size;have p:=qk p z;have x:=qh<|i.o.below p.o i.o.lt;have J:=qh s;clear A B z s;obtain⟨y0,y1,y2,y3,y4,y5⟩:=Jg x.o;go_wp2_with fail
 have aa:=E.o.lt;have V:=i.o.lt;have s:=J.o;have U:=q.o.trans (p.o.mono q.o.size);refine bodyPost_ret (Je rfl _ _ _ _ _ _ _ rfl ((((x.o.put 0 _).put 1 _).put 2 _).put 3 _) underlying32 rfl Zk) rfl ⟨X,_,Y,_,rfl,?_,zj,?_,zj,?_⟩
 ·exact(((((I.o.1.oz).oz).oz).oz).rdS C u.heap.size Zo)
 ·exact(((((I.o.2.oz).oz).oz).oz).rdS C u.heap.size Zo)
 ·exact(((U.sc).sc).sc).sc
theorem Kv (j:Bool) (m:Option Addr) (d c1:Nat) (h:Nat->Int) (k:Bool) (o:Option Addr) (f c2:Nat) (i:Nat->Int) (x:World) (g:Nat) (A:g<=x.heap.size)
  (y:Rd x m d h) (s:d<=5000000) (q:d<=c1) (E:0<d->∀ B,m=some B->B.block<g) (z:Rd x o f i) (u:f<=5000000) (r:f<=c2) (F:0<f->∀ B,o=some B->B.block<g) :
  Cl 102 #[J4 j m d c1 k o f c2] x (jbe x g (Xv j d h k f i).num ((Xv j d h k f i).den:Int)):=by
 by_cases p:okF j d h k f i
 ·obtain⟨C,D⟩:=XY p;rw[C,D];exact fof2_ok j m d c1 h k o f c2 i x g A y s q E z u r F p
 ·rw[jaj p];exact fof2_not j m d c1 h k o f c2 i x g y s q z u r p
theorem UF (k j:Int) (S P:Option Addr) (c1 c2:Nat) (M:World) (h1:Rd M S (Ja k.natAbs) (dgi k.natAbs)) (aB:Ja k.natAbs<=4000000) (az:Ja k.natAbs<=c1) (h2:Rd M P (Ja j.natAbs) (dgi j.natAbs)) (aC:Ja j.natAbs<=4000000) (ak:Ja j.natAbs<=c2) (hz:j≠0) :
  Cl 164 #[Jv (decide (k<0)) S (Ja k.natAbs) c1,Jv (decide (j<0)) P (Ja j.natAbs) c2] M (Ki M (Rat.divInt k j).num ((Rat.divInt k j).den:Int)):=by
 obtain⟨ab,hG⟩:=gn ((Int.gcd k j:Nat):Int);have HR:=qh<|And.intro h1 h2;have ai:=qh<|And.intro aB aC;obtain⟨L,hg⟩:=gn (if j<0 then -ab else ab:Int);have U:=qh<|And.intro (Ut k j hz) (Uu k j hz);have ac:=qh<|jiq k j hz;rw[<- hG,<- hg] at U ac
 have aj:Ja ab.natAbs<=8000000:=by rw[hG,Int.natAbs_natCast];have:=Vb k j;omega
 have ah:=qh (show Ja L.natAbs<=8000000 by rw[hg];split;rw[Int.natAbs_neg];exact aj;exact aj);have GC:=qh (λ(w':World) (d:Bl M w')=>jiz (decide (k<0)) S (Ja k.natAbs) c1 (dgi k.natAbs) (decide (j<0)) P (Ja j.natAbs) c2 (dgi j.natAbs) w' (h1.below d) Zo az (h2.below d) Zo ak);rw[Jl,Jl,<- hG] at GC;have SG:=qh (λ(w':World) (d:Bl M w')=>Kr (decide (j<0)) P (Ja j.natAbs) c2 (dgi j.natAbs) w' (h2.below d) Zo ak);rw[Jl] at SG;obtain⟨cs,af⟩:=gn (Js j 0);rw[<- af] at SG;have aI:=qh hG;have aD:=qh aj;have h:=qh<|((Bx.new M 30 (.bool (decide (k<0))) (.slice S (Ja k.natAbs) c1)).alloc (.cells #[.bool (decide (j<0)),.slice P (Ja j.natAbs) c2] 30)).alloc (.cells zFv.toArray 32);have i:=qh<|(Bx.Zu M (.cells #[.bool (decide (k<0)),.slice S (Ja k.natAbs) c1] 30) 30 (.bool (decide (j<0))) (.slice P (Ja j.natAbs) c2)).alloc (.cells zFv.toArray 32);have f:=qh<|Bxs.new ((M.alloc (.cells #[.bool (decide (k<0)),.slice S (Ja k.natAbs) c1] 30)).alloc (.cells #[.bool (decide (j<0)),.slice P (Ja j.natAbs) c2] 30)) 32 zFv;obtain⟨W,hW⟩:=gn (((M.alloc (.cells #[.bool (decide (k<0)),.slice S (Ja k.natAbs) c1] 30)).alloc (.cells #[.bool (decide (j<0)),.slice P (Ja j.natAbs) c2] 30)).alloc (.cells zFv.toArray 32));have m:=qh<|bq hW (((zk.alloc zj _).alloc (by go_size) _).alloc (by go_size) _)
 have aA:M.heap.size+3=W.heap.size:=by rw[hW];simp
 rw[<- hW] at h i;rw[<- hW,World.size_alloc,World.size_alloc] at f;have HW:=qh hW;have aw:=qh aA;clear h1 h2 aB aC hz hG aj hW aA;go_enter func164,ntmps164
 go_upto_region 1 with (fail)
 rw[<- HW.o];clear HW;obtain⟨q,r,s,u⟩:=h.o.all;obtain⟨x,y,z,A⟩:=i.o.all;go_wp2_with fail
 refine(GC.o _ m.o).mono ?_;rintro e w1 ⟨aG,rfl,hO,-,d⟩
 go_upto_region 2 with (fail)
 obtain⟨aa,p⟩:=gn (w1.alloc (.cells #[.bool (decide (ab<0)),.slice aG (Ja ab.natAbs) (Ja ab.natAbs)] 30));have Z:=bq p (d.alloc d.size _);have g:=qh (show Bx aa w1.heap.size 30 (.bool (decide (ab<0))) (.slice aG (Ja ab.natAbs) (Ja ab.natAbs)) by rw[p];exact Bx.new w1 _ _ _);have KO:=qh (show Own 128 aa (M.heap.size+3) aG (Ja ab.natAbs) (Ja ab.natAbs) (dgi ab.natAbs) by rw[p,aw.o];exact hO.JD _);rw[<- p];obtain⟨Y,ax⟩:=gn w1.heap.size;have ad:=qh (show M.heap.size+2<Y by have:=d.size;have:=aw.o;omega);have o:=qh (show M.heap.size+3<=aa.heap.size by rw[aw.o];exact Z.size);have KX:=qh (show ∀ aF,aG=some aF->aF.block<Y from λaF hp=>by rw[ax];exact(hO.blk hp).2.2);rw[<- ax] at g ⊢;have h:=qh<|h.o.bl Z;have i:=qh<|i.o.bl Z;have f:=qh<|f.o.bl Z;have m:=qk m Z;clear hO d p Z ax q r s u x y z A GC;obtain⟨q,r,s,u⟩:=h.o.all;obtain⟨x,y,z,A⟩:=i.o.all;obtain⟨F,G,H,I,J,K⟩:=Jg f.o;obtain⟨B,C,D,E⟩:=g.o.all;go_wp2_with fail
 refine(SG.o _ m.o).mono ?_;rintro e v ⟨rfl,d⟩;clear q r s u x y z A F G H I J K B C D E;have h:=qh<|h.o.bl d;have i:=qh<|i.o.bl d;have f:=qh<|f.o.bl d;have g:=qh<|g.o.bl d;have m:=qh<|m.o.trans (Below.mono d m.o.size);have KO:=qh<|KO.o.below d;have o:=qh<|zm o.o d.size;clear d SG;by_cases R:j<0
 ·have hc:cs<0:=by rw[af,JK R];omega
  have am:L = -ab:=by rw[hg,if_pos R]
  clear hg af R;have NG:=qh<|neg_any (decide (ab<0)) aG (Ja ab.natAbs) (Ja ab.natAbs) (dgi ab.natAbs) v KO.o.rd (Zh aD) zj;rw[Jl,<- am] at NG;clear am;obtain⟨q,r,s,u⟩:=h.o.all;obtain⟨x,y,z,A⟩:=i.o.all;obtain⟨F,G,H,I,J,K⟩:=Jg f.o;obtain⟨B,C,D,E⟩:=g.o.all;go_wp2_with fail
  refine NG.o.mono ?_;rintro e w3 ⟨O,rfl,hO,-,d⟩;have ay:=g.o.lt;clear q r s u x y z A F G H I J K B C D E;have h:=qh<|h.o.bl d;have i:=qh<|i.o.bl d;have f:=qh<|f.o.bl d;have g:=qh<|g.o.bl d;have m:=qh<|m.o.trans (Below.mono d m.o.size);have KO:=qh<|hO.mono (show Y+1<=v.heap.size from ay);have o:=qh<|zm o.o d.size;clear hO d NG ay;obtain⟨Q,V⟩:=gn (Ja L.natAbs);have aH:=qh<|show Y<w3.heap.size from g.o.lt;obtain⟨q,r,s,u⟩:=h.o.all;obtain⟨x,y,z,A⟩:=i.o.all;obtain⟨F,G,H,I,J,K⟩:=Jg f.o;obtain⟨B,C,D,E⟩:=g.o.all
  go_upto_region 4 with (fail)
  obtain⟨v,hv⟩:=gn ((w3.setCell ⟨Y,0,none⟩ (.bool (decide (L<0)))).setCell ⟨Y,1,none⟩ (.slice O (Ja L.natAbs) (Ja L.natAbs)));have X:=ad.o;have h:=qh (show Bx v M.heap.size 30 (.bool (decide (k<0))) (.slice S (Ja k.natAbs) c1) by rw[hv];exact(h.o.oz).oz);have i:=qh (show Bx v (M.heap.size+1) 30 (.bool (decide (j<0))) (.slice P (Ja j.natAbs) c2) by rw[hv];exact(i.o.oz).oz);have f:=qh<|bz hv ((f.o.oz).oz);have g:=qh (show Bx v Y 30 (.bool (decide (L<0))) (.slice O (Ja L.natAbs) Q) by rw[hv,V];exact g.o.set _ _);have KO:=qh (show Own 128 v (M.heap.size+3) O (Ja L.natAbs) Q (dgi L.natAbs) by rw[hv,V];exact((KO.o.oz).oz).mono Zo);have m:=qh<|bq hv ((m.o.sc).sc);have o:=qh (show M.heap.size+3<=v.heap.size by rw[hv];simp only[World.size_setCell];exact o.o);rw[<- hv];clear hv X V q r s u x y z A F G H I J K B C D E;obtain⟨q,r,s,u⟩:=h.o.all;obtain⟨x,y,z,A⟩:=i.o.all;obtain⟨F,G,H,I,J,K⟩:=Jg f.o;obtain⟨B,C,D,E⟩:=g.o.all;have T:=qh<|V7 k L S O c1 Q v (HR.o.1.below m.o) (Zh ai) az KO.o.rd (Zh ah) KO.o.le ac.o;go_wp2_with fail
  with_reducible refine T.o.mono ?_
  rintro e w4 ⟨aq,ar,rfl,hq,-,-,-,-,d⟩;clear q r s u x y z A F G H I J K B C D E;have h:=qh<|h.o.bl d;have i:=qh<|i.o.bl d;have f:=qh<|f.o.bl d;have g:=qh<|g.o.bl d;have m:=qh<|m.o.trans (Below.mono d m.o.size);have KO:=qh<|KO.o.below d;have N:=qh<|hq.mono o.o;have o:=qh<|zm o.o d.size;clear hq d T;obtain⟨an,hQ⟩:=gn (k/L);rw[<- hQ] at N ⊢;have av:=qh hQ;clear hQ;obtain⟨q,r,s,u⟩:=h.o.all;obtain⟨x,y,z,A⟩:=i.o.all;obtain⟨F,G,H,I,J,K⟩:=Jg f.o;obtain⟨B,C,D,E⟩:=g.o.all;obtain⟨aK,hR⟩:=gn (k%L);rw[<- hR];clear hR
  go_upto_region 5 with (fail)
  obtain⟨aa,p⟩:=gn ((w4.setCell ⟨M.heap.size+1+1,0,none⟩ (.bool (decide (an<0)))).setCell ⟨M.heap.size+1+1,1,none⟩ (.slice aq (Ja an.natAbs) (Ja an.natAbs)));have X:=ad.o;have h:=qh (show Bx aa M.heap.size 30 (.bool (decide (k<0))) (.slice S (Ja k.natAbs) c1) by rw[p];exact(h.o.oz).oz);have i:=qh (show Bx aa (M.heap.size+1) 30 (.bool (decide (j<0))) (.slice P (Ja j.natAbs) c2) by rw[p];exact(i.o.oz).oz);have f:=qh<|bw p ((f.o.put 0 _).put 1 _);have g:=qh (show Bx aa Y 30 (.bool (decide (L<0))) (.slice O (Ja L.natAbs) Q) by rw[p];exact(g.o.oz).oz);have KO:=qh (show Own 128 aa (M.heap.size+3) O (Ja L.natAbs) Q (dgi L.natAbs) by rw[p];exact(KO.o.oz).oz);have N:=qh (show Own 128 aa (M.heap.size+3) aq (Ja an.natAbs) (Ja an.natAbs) (dgi an.natAbs) by rw[p];exact(N.o.oz).oz);have m:=qh<|bq p ((m.o.sc).sc);have o:=qh (show M.heap.size+3<=aa.heap.size by rw[p];simp only[World.size_setCell];exact o.o);rw[<- p];clear p X q r s u x y z A F G H I J K B C D E;obtain⟨q,r,s,u⟩:=h.o.all;obtain⟨x,y,z,A⟩:=i.o.all;obtain⟨F,G,H,I,J,K⟩:=Jg f.o;obtain⟨B,C,D,E⟩:=g.o.all;have T:=qh<|V7 j L P O c2 Q aa (HR.o.2.below m.o) (Zh ai) ak KO.o.rd (Zh ah) KO.o.le ac.o;go_wp2_with fail
  with_reducible refine T.o.mono ?_
  rintro e w5 ⟨ap,aE,rfl,hp,-,-,-,-,d⟩;clear q r s u x y z A F G H I J K B C D E;have h:=qh<|h.o.bl d;have i:=qh<|i.o.bl d;have f:=qh<|f.o.bl d;have g:=qh<|g.o.bl d;have m:=qh<|m.o.trans (Below.mono d m.o.size)
  have ao:=qh (show XA aq ap from λaF aL h1 h2 e=>by
   have h3:=(N.o.blk h1).2.2;have h4:=(hp.blk h2).2.1
   omega)
  have N:=qh<|N.o.below d;have HP:=qh<|hp.mono o.o;clear hp d T;obtain⟨aJ,hP⟩:=gn (j/L);rw[<- hP] at HP ⊢;have au:=qh hP;clear hP;obtain⟨R2,ae⟩:=gn (j%L);rw[<- ae];clear ae;obtain⟨q,r,s,u⟩:=h.o.all;obtain⟨x,y,z,A⟩:=i.o.all;obtain⟨F,G,H,I,J,K⟩:=Jg f.o;obtain⟨B,C,D,E⟩:=g.o.all;go_wp2_with fail
  have X:=ad.o;refine bodyPost_ret (Je rfl _ _ _ _ _ _ _ rfl ((((((f.o.put 2 _).put 3 _).put 0 _).put 1 _).put 2 _).put 3 _) underlying32 rfl Zk) rfl ?_;unfold Ki;rw[<- U.o.1,<- U.o.2,<- av.o,<- au.o];refine⟨aq,ap,rfl,?_,?_,ao.o,?_⟩
  ·exact((((((N.o.oz).oz).oz).oz).oz).oz).mono Zo
  ·exact((((((HP.o.oz).oz).oz).oz).oz).oz).mono Zo
  ·exact(((((m.o.sc).sc).sc).sc).sc).sc
 ·have hc:¬cs<0:=by rw[af];unfold Js;rw[if_neg R];split <;> omega
  have am:L=ab:=by rw[hg,if_neg R]
  subst am;clear hg af R;obtain⟨O,rfl⟩:=gn aG;obtain⟨Q,V⟩:=gn (Ja L.natAbs);have g:=qh (show Bx v Y 30 (.bool (decide (L<0))) (.slice O (Ja L.natAbs) Q) by rw[V];exact g.o);have KO:=qh (show Own 128 v (M.heap.size+3) O (Ja L.natAbs) Q (dgi L.natAbs) by rw[V];exact KO.o);clear V;obtain⟨q,r,s,u⟩:=h.o.all;obtain⟨x,y,z,A⟩:=i.o.all;obtain⟨F,G,H,I,J,K⟩:=Jg f.o;obtain⟨B,C,D,E⟩:=g.o.all;have T:=qh<|V7 k L S O c1 Q v (HR.o.1.below m.o) (Zh ai) az KO.o.rd (Zh ah) KO.o.le ac.o;go_wp2_with fail
  with_reducible refine T.o.mono ?_
  rintro e w4 ⟨aq,ar,rfl,hq,-,-,-,-,d⟩;clear q r s u x y z A F G H I J K B C D E;have h:=qh<|h.o.bl d;have i:=qh<|i.o.bl d;have f:=qh<|f.o.bl d;have g:=qh<|g.o.bl d;have m:=qh<|m.o.trans (Below.mono d m.o.size);have KO:=qh<|KO.o.below d;have N:=qh<|hq.mono o.o;have o:=qh<|zm o.o d.size;clear hq d T;obtain⟨an,hQ⟩:=gn (k/L);rw[<- hQ] at N ⊢;have av:=qh hQ;clear hQ;obtain⟨q,r,s,u⟩:=h.o.all;obtain⟨x,y,z,A⟩:=i.o.all;obtain⟨F,G,H,I,J,K⟩:=Jg f.o;obtain⟨B,C,D,E⟩:=g.o.all;obtain⟨aK,hR⟩:=gn (k%L);rw[<- hR];clear hR
  go_upto_region 5 with (fail)
  obtain⟨aa,p⟩:=gn ((w4.setCell ⟨M.heap.size+1+1,0,none⟩ (.bool (decide (an<0)))).setCell ⟨M.heap.size+1+1,1,none⟩ (.slice aq (Ja an.natAbs) (Ja an.natAbs)));have X:=ad.o;have h:=qh (show Bx aa M.heap.size 30 (.bool (decide (k<0))) (.slice S (Ja k.natAbs) c1) by rw[p];exact(h.o.oz).oz);have i:=qh (show Bx aa (M.heap.size+1) 30 (.bool (decide (j<0))) (.slice P (Ja j.natAbs) c2) by rw[p];exact(i.o.oz).oz);have f:=qh<|bw p ((f.o.put 0 _).put 1 _);have g:=qh (show Bx aa Y 30 (.bool (decide (L<0))) (.slice O (Ja L.natAbs) Q) by rw[p];exact(g.o.oz).oz);have KO:=qh (show Own 128 aa (M.heap.size+3) O (Ja L.natAbs) Q (dgi L.natAbs) by rw[p];exact(KO.o.oz).oz);have N:=qh (show Own 128 aa (M.heap.size+3) aq (Ja an.natAbs) (Ja an.natAbs) (dgi an.natAbs) by rw[p];exact(N.o.oz).oz);have m:=qh<|bq p ((m.o.sc).sc);have o:=qh (show M.heap.size+3<=aa.heap.size by rw[p];simp only[World.size_setCell];exact o.o);rw[<- p];clear p X q r s u x y z A F G H I J K B C D E;obtain⟨q,r,s,u⟩:=h.o.all;obtain⟨x,y,z,A⟩:=i.o.all;obtain⟨F,G,H,I,J,K⟩:=Jg f.o;obtain⟨B,C,D,E⟩:=g.o.all;have T:=qh<|V7 j L P O c2 Q aa (HR.o.2.below m.o) (Zh ai) ak KO.o.rd (Zh ah) KO.o.le ac.o;go_wp2_with fail
  with_reducible refine T.o.mono ?_
  rintro e w5 ⟨ap,aE,rfl,hp,-,-,-,-,d⟩;clear q r s u x y z A F G H I J K B C D E;have h:=qh<|h.o.bl d;have i:=qh<|i.o.bl d;have f:=qh<|f.o.bl d;have g:=qh<|g.o.bl d;have m:=qh<|m.o.trans (Below.mono d m.o.size)
  have ao:=qh (show XA aq ap from λaF aL h1 h2 e=>by
   have h3:=(N.o.blk h1).2.2;have h4:=(hp.blk h2).2.1
   omega)
  have N:=qh<|N.o.below d;have HP:=qh<|hp.mono o.o;clear hp d T;obtain⟨aJ,hP⟩:=gn (j/L);rw[<- hP] at HP ⊢;have au:=qh hP;clear hP;obtain⟨R2,ae⟩:=gn (j%L);rw[<- ae];clear ae;obtain⟨q,r,s,u⟩:=h.o.all;obtain⟨x,y,z,A⟩:=i.o.all;obtain⟨F,G,H,I,J,K⟩:=Jg f.o;obtain⟨B,C,D,E⟩:=g.o.all;go_wp2_with fail
  have X:=ad.o;refine bodyPost_ret (Je rfl _ _ _ _ _ _ _ rfl ((((((f.o.put 2 _).put 3 _).put 0 _).put 1 _).put 2 _).put 3 _) underlying32 rfl Zk) rfl ?_;unfold Ki;rw[<- U.o.1,<- U.o.2,<- av.o,<- au.o];refine⟨aq,ap,rfl,?_,?_,ao.o,?_⟩
  ·exact((((((N.o.oz).oz).oz).oz).oz).oz).mono Zo
  ·exact((((((HP.o.oz).oz).oz).oz).oz).oz).mono Zo
  ·exact(((((m.o.sc).sc).sc).sc).sc).sc
end Limb
end Go.Proofs.YthacfgmdihcffaaGreatDoor
