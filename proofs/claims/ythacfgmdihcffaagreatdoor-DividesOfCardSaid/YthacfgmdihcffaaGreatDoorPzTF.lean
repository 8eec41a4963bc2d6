/-
  The walk of a Book's Apart: no two lists share memory; lists of limbs and rows of terms.
-/
import Derived.Test.YthacfgmdihcffaaGreatDoorPzTE
import Derived.WalkMore
import Derived.Laws.MakeOwn
set_option linter.unusedSimpArgs false
set_option linter.unusedVariables false
set_option maxHeartbeats 16000000
set_option maxRecDepth 100000
open Go.Proofs.Tryz
namespace Go.Proofs.YthacfgmdihcffaaGreatDoor
namespace Limb
open Go.RowKit Go.Sort Go.FreshH
variable {w wa wb wr:World} {L M N bv cv gq gu gv m n:Nat} {qp up vp:Nat->Int}
theorem jen {ob:Nat->Int} (c:Dig ob (m+1)) (q:ob m≠0):1<=1000000000/(ob m+1)/\1000000000/(ob m+1)<=500000000/\Jj ob (m+1)*(1000000000/(ob m+1))<(pw (m+1):Int)/\(pw m:Int)<=Jj ob (m+1):=by
 have r:=c m Zo
 have b:=JB (o:=ob) (n:=m) λk l=>c k Zo
 have p:(0:Int)<(pw m:Int):=by have:=Q5 m;omega
 have d:1<=1000000000/(ob m+1):=(Int.le_ediv_iff_mul_le Zo).2 Zo
 have f:1000000000/(ob m+1)<=500000000:=by
  have:1000000000/(ob m+1)<500000001:=Int.ediv_lt_of_lt_mul Zo Zo;omega
 have g:1000000000/(ob m+1)*(ob m+1)<=1000000000:=Int.ediv_mul_le _ Zo
 generalize 1000000000/(ob m+1)=s at *
 have e:Jj ob (m+1)=Jj ob m+ob m*(pw m:Int):=rfl;refine⟨d,f,?_,?_⟩
 ·have a:Jj ob (m+1)<(ob m+1)*(pw m:Int):=by rw[e,Int.add_mul];omega
  have h:Jj ob (m+1)*s<(ob m+1)*(pw m:Int)*s:=Int.mul_lt_mul_of_pos_right a Zo
  have i:(ob m+1)*(pw m:Int)*s=s*(ob m+1)*(pw m:Int):=by rw[Int.mul_comm,<- Int.mul_assoc]
  have j:s*(ob m+1)*(pw m:Int)<=1000000000*(pw m:Int):=Int.mul_le_mul_of_nonneg_right g Zo;rw[JR,Int.natCast_mul];omega
 ·have a:1*(pw m:Int)<=ob m*(pw m:Int):=Int.mul_le_mul_of_nonneg_right Zo Zo;rw[e];omega
theorem jg6 {p:Nat->Int} {V:Int} (c:Dig p (m+1+1)) (r:Jj p (m+1+1)=V) (i:V<(pw (m+1):Int)) (h:(pw m:Int)<=V):Jj p (m+1)=V/\0<p m:=by
 have b:=JB (o:=p) (n:=m+1) λk g=>c k Zo
 have j:=JB (o:=p) (n:=m) λk g=>c k Zo
 have q:(0:Int)<(pw (m+1):Int):=by have:=Q5 (m+1);omega
 have e:Jj p (m+1+1)=Jj p (m+1)+p (m+1)*(pw (m+1):Int):=rfl;have d:Jj p (m+1)=Jj p m+p m*(pw m:Int):=rfl
 have f:p (m+1)=0:=by
  have l:=c (m+1) Zo
  rcases Int.lt_or_le 0 (p (m+1)) with a | a
  ·have:1*(pw (m+1):Int)<=p (m+1)*(pw (m+1):Int):=Int.mul_le_mul_of_nonneg_right Zo Zo;omega
  ·omega
 rw[f,Int.zero_mul,Int.add_zero] at e;refine⟨Zo,?_⟩;have l:=c m Zo
 rcases Int.lt_or_le 0 (p m) with a | a
 ·exact a
 ·have:p m=0:=Zo;rw[this,Int.zero_mul] at d;omega
structure Kg (w wr:World) (gu gq gv bv n L M cv:Nat) (up qp vp:Nat->Int):Prop where
 u:Own 128 wr w.heap.size (some ⟨gu,0,none⟩) L L up
 q:Own 128 wr w.heap.size (some ⟨gq,0,none⟩) M M qp
 v:Own 128 wr w.heap.size (some ⟨gv,0,none⟩) n cv vp
 vb:wr.rowIs bv 28 1 (λ_=>.slice (some ⟨gv,0,none⟩) n cv)
 bel:Bl w wr
def jd8 (w:World) (L N:Nat) (A V:Int) (gu gv bv:Nat) (up vp:Nat->Int) (wx:World):Prop :=
 Dig up L/\Jj up L=A/\Dig vp (N+1)/\Jj vp (N+1)=V/\Own 128 wx w.heap.size (some ⟨gu,0,none⟩) L L up/\Own 128 wx w.heap.size (some ⟨gv,0,none⟩) (N+1) (N+1) vp /\
  wx.rowIs bv 28 1 (λ_=>.slice (some ⟨gv,0,none⟩) N (N+1))/\(gu≠gv/\gu≠bv/\gv≠bv)/\w.heap.size<=bv/\Bl w wx
theorem row_one (c:World) (v:Value) (b:TypeId):(c.alloc (.cells #[v] b)).rowIs c.heap.size b 1 (λ_=>v):=World.rowIs_alloc c #[v] b (λ_=>v) (λd a=>by
 match d,a with
 | 0,_=>rfl)
theorem scaled_1 {o p:Int} (g:Dig up L) (k:Jj up L=o) (h:Dig vp (N+1)) (l:Jj vp (N+1)=p) (d:Own 128 wa w.heap.size (some ⟨gu,0,none⟩) L L up) (f:Own 128 wb wa.heap.size (some ⟨gv,0,none⟩) (N+1) (N+1) vp)
  (a:Bl w wa) (c:Bl wa wb):jd8 w L N o p gu gv wb.heap.size up vp (wb.alloc (.cells #[.slice (some ⟨gv,0,none⟩) N (N+1)] 28)):=by
 have i:=(d.blk rfl).2;have j:=(f.blk rfl).2;dsimp only at i j;have b:=a.trans (c.mono a.size);exact⟨g,k,h,l,(d.below c).JD _,(f.mono a.size).JD _,row_one wb _ _,⟨Zo,by have:=c.size;omega,Zo⟩,b.size,b.alloc b.size _⟩
theorem scaled_2 {g:World} {t u:Int} {d:Nat} (o:Dig up L) (r:Jj up L=t) (p:Dig vp (N+1)) (s:Jj vp (N+1)=u) (k:Own 128 wa w.heap.size (some ⟨gu,0,none⟩) L L up)
  (l:Own 128 g (wa.alloc (.cells #[.slice none 0 0] 28)).heap.size (some ⟨d,0,none⟩) (N+1) (N+1) vp)
  (a:Bl w wa) (b:Below (wa.alloc (.cells #[.slice none 0 0] 28)).heap.size (wa.alloc (.cells #[.slice none 0 0] 28)) g) :
  jd8 w L N t u gu d wa.heap.size up vp (g.setCell ⟨wa.heap.size,0,none⟩ (.slice (some ⟨d,0,none⟩) N (N+1))):=by
 have q:=(k.blk rfl).2;have h:=(l.blk rfl).2;dsimp only at q h;rw[World.size_alloc] at h;have c:Bl w (wa.alloc (.cells #[.slice none 0 0] 28)):=a.alloc a.size _;have i:=c.trans (b.mono c.size);have j:=a.size
 refine⟨o,r,p,s,((k.JD _).below b).keep (λx f=>Below.heap_setCell _ _ _ _ (by cases f;dsimp only;omega)),(l.mono (by simp;omega)).keep (λx f=>Below.heap_setCell _ _ _ _ (by cases f;dsimp only;omega)),
  (((row_one wa _ _).of_block (b.block _ (by simp))).set 0 _).congr (λy v=>by rw[if_pos Zo]),⟨Zo,Zo,Zo⟩,j,i.setCell j _⟩
theorem scaled_3 {f g j:World} {x y:Int} {k h:Nat} (d:f=(w.alloc (.cells #[.slice none 0 0] 28)).drew) (q:Dig up L) (u:Jj up L=x) (r:Dig vp (N+1)) (v:Jj vp (N+1)=y)
  (o:Own 128 g f.heap.size (some ⟨k,0,none⟩) L L up) (p:Own 128 j g.heap.size (some ⟨h,0,none⟩) (N+1) (N+1) vp) (a:Bl f g) (c:Bl g j) :
  jd8 w L N x y k h w.heap.size up vp (j.setCell ⟨w.heap.size,0,none⟩ (.slice (some ⟨h,0,none⟩) N (N+1))):=by
 have s:=(o.blk rfl).2;have t:=(p.blk rfl).2;dsimp only at s t
 have z:f.heap.size=w.heap.size+1:=by rw[d];show(w.alloc _).heap.size=_;simp
 have b:=bq d ((zk.alloc zj _).drew);have l:=(b.trans (a.mono b.size)).trans (c.mono (zm b.size a.size));have B:=a.size
 have r0:f.rowIs w.heap.size 28 1 (λ_=>.slice none 0 0):=by rw[d];exact(row_one w _ _)
 refine⟨q,u,r,v,((o.mono Zo).below c).keep (λC i=>Below.heap_setCell _ _ _ _ (by cases i;dsimp only;omega)),(p.mono Zo).keep (λC i=>Below.heap_setCell _ _ _ _ (by cases i;dsimp only;omega)),
  (((r0.of_block (a.block _ Zo)).of_block (c.block _ Zo)).set 0 _).congr (λD A=>by rw[if_pos Zo]),⟨Zo,Zo,Zo⟩,zj,l.setCell zj _⟩
theorem UE (a:Option Addr) (n u:Nat) (o:Nat->Int) (b:Int) (t:World) (s:Rd t a n o) (j:Dig o n) (r:n<=200000000) (q:0<=b/\b<=999999999) (d:World) (k:Bl t d) :
  Cl 249 #[.slice a n u,.int .u32 b] d λe c=>∃ g i,e=.returned (.slice (some ⟨g,0,none⟩) (n+1) (n+1))/\Dig i (n+1)/\Jj i (n+1)=Jj o n*b/\Own 128 c d.heap.size (some ⟨g,0,none⟩) (n+1) (n+1) i/\Bl d c/\Bl t c/\d.heap.size<=g/\g<c.heap.size:=by
 refine(jfs a n u o b d (s.below k) j r q).mono ?_;rintro e c ⟨g,i,rfl,l,p,f,h⟩;exact⟨g,i,rfl,l,p,f,h,k.trans (h.mono k.size),(f.blk rfl).2.1,(f.blk rfl).2.2⟩
theorem Kg.drewN (b:Kg w wr gu gq gv bv n L M cv up qp vp) (k:Nat):Kg w (wr.drewN k) gu gq gv bv n L M cv up qp vp:=by
 have a:Bl wr (wr.drewN k):=QC zk k;exact⟨b.u.below a,b.q.below a,b.v.below a,b.vb.of_block (a.block _ b.vb.lt),b.bel.trans (a.mono b.bel.size)⟩
theorem Kg.V6 {b:Nat} (d:Kg w wr gu gq gv bv n L M cv up qp vp) (a:gu≠b/\gq≠b/\gv≠b/\bv≠b) (f:w.heap.size<=b) (h:Value):Kg w (wr.setCell ⟨b,0,none⟩ h) gu gq gv bv n L M cv up qp vp :=
 ⟨d.u.keep λg c=>Below.heap_setCell _ _ _ _ (by cases c;exact a.1),d.q.keep λg c=>Below.heap_setCell _ _ _ _ (by cases c;exact a.2.1),d.v.keep λg c=>Below.heap_setCell _ _ _ _ (by cases c;exact a.2.2.1),d.vb.setOther a.2.2.2 _,d.bel.setCell f _⟩
def boxN (w:World) (b:Nat):Nat:=match w.cell? ⟨b,0,none⟩ with | some (.int _ g)=>g.toNat | _=>0
theorem YY {b:Nat} {d:TypeId} {k:IntKind} {a:Int} (c:w.rowIs b d 1 (λ_=>.int k a)):boxN w b=a.toNat:=by
 unfold boxN;rw[c.cell (i:=0) Zo]
theorem jg7 (a b:Option Addr) (la ca d n O cb z K:Nat) (oa Y:Nat->Int) (X:World) (ha:Rd X a la oa) (hb:Rd X b d Y) (da:Dig oa la) (db:Dig Y d) (ct:la<=100000000) (hN:d=n+1) (hn:n=O+1) (hL:z=la+1) (hM:K+d=z) (cq:d<=la) (ht:Y n≠0) :
  Cl 237 #[.slice a la ca,.slice b d cb] X λe w'=>∃ gq gr qp rp,e=.returned (.tuple #[.slice (some ⟨gq,0,none⟩) K K,.slice (some ⟨gr,0,none⟩) d d])/\gq≠gr /\
   Dig qp K/\Jj qp K=Jj oa la/Jj Y d/\Dig rp d/\Jj rp d=Jj oa la%Jj Y d /\
   Own 128 w' X.heap.size (some ⟨gq,0,none⟩) K K qp/\Own 128 w' X.heap.size (some ⟨gr,0,none⟩) d d rp/\Bl X w':=by
 obtain⟨sc,ao⟩:=gn (1000000000/(Y n+1));have SP:=jen (ob:=Y) (m:=n) (by rw[<- hN];exact db) ht;rw[<- ao,<- hN] at SP;obtain⟨p1,p2,p3,p4⟩:=SP;have HP:=qh<|And.intro p3 p4;have bc:=db n Zo;obtain⟨bb,bo,rfl,hc⟩:=hb.cells Zo;have c1:X.cell? ⟨bb,bo+n,none⟩=some (.int .u32 (Y n)):=hc n Zo
 have t1:(1000000000:Int).tdiv (Y n+1)=sc:=by rw[ao];exact Int.tdiv_eq_ediv_of_nonneg Zo
 have WA:=qh (λ(w':World) (aI:Bl X w')=>UE a la ca oa sc X ha da Zo Zo w' aI);have WB:=qh (λ(w':World) (aI:Bl X w')=>UE (some ⟨bb,bo,none⟩) d cb Y sc X hb db Zo Zo w' aI);rw[<- hL] at WA;have DA:=qh<|And.intro da db;obtain⟨tp,be⟩:=gn (Y n);rw[<- be] at c1 t1 bc;have e1:=IntWalk.u32_in (tp+1) Zo;have e2:=IntWalk.u32_in sc Zo;have x1:¬(tp+1=0):=Zo;have xn:(d:Int)-1=(n:Int):=Zo;have cV:=IntWalk.i64_in ((d:Int)-1) Zo;have bC:n<d:=Zo;have HT:=qh be;have l:=qh<|And.intro (And.intro hN hn) (And.intro hL hM);clear ha hb da db hc bc p3 p4 ao ht be hN hn hL;go_enter func237,ntmps237;go_wp2_with fail
 go_step3
 go_upto_region 3 with (fail)
 go_cut [8,9] (λv8 v9 wx=>∃ gu gv bv up vp,v8=.slice (some ⟨gu,0,none⟩) z z/\v9=.pointer (some ⟨bv,0,none⟩)/\jd8 X z d (Jj oa la*sc) (Jj Y d*sc) gu gv bv up vp wx)
 case first =>
  have b8:(d:Int)<=(d:Int)+1:=Zo;have b9:(0:Int)<=(d:Int):=Zo;have cj:=qh<|Below.refl X.heap.size X
  go_region_held3 (λw'=>Bl X w')
   (repeat (first
    | (with_reducible assumption)
    | (with_reducible exact zk)
    | (with_reducible refine Below.setCell ?_ ?_ _)
    | (with_reducible refine Below.alloc ?_ ?_ _)
    | (with_reducible refine Below.drew ?_)
    | (simp only[World.size_alloc,World.size_drew,World.size_setCell];omega) | omega))
   (first
    | (go_at_call 249;refine(WA.o _ (by first | with_reducible assumption | exact Below.drew zk | exact(by with_reducible assumption:Below _ _ _).alloc (by with_reducible assumption) _ | exact(Below.drew zk).alloc zj _)).mono ?_;rintro e wa ⟨gu,up,rfl,du,su,ou,a0,aW,cm,cn⟩;have cx:=aW.size;obtain⟨bW,bY⟩:=VU a0;have bG:=a0.size;(try simp only[World.size_alloc,World.size_drew] at bG bW bY);(try rw[Nat.add_one_le_iff] at bG))
    | (go_at_call 249;refine(WB.o _ (by first | with_reducible assumption | exact Below.drew zk | exact(by with_reducible assumption:Below _ _ _).alloc (by with_reducible assumption) _ | exact(Below.drew zk).alloc zj _)).mono ?_;rintro e wb ⟨gv,vp,rfl,dv,sv,J,aC,bU,co,cp⟩;have cy:=bU.size;obtain⟨bX,bZ⟩:=VU aC;have bH:=aC.size;(try simp only[World.size_alloc,World.size_drew] at bH bX bZ);(try rw[Nat.add_one_le_iff] at bH)))
  ·go_wp2_with fail
   go_meet
   case rel=>exact⟨gu,gv,_,up,vp,rfl,rfl,scaled_1 du su dv sv ou J aW aC⟩
  ·go_wp2_with fail
   go_meet
   case rel=>exact⟨gu,gv,_,up,vp,rfl,rfl,scaled_2 du su dv sv ou J aW aC⟩
  ·go_wp2_with fail
   go_meet
   case rel=>exact⟨gu,gv,_,up,vp,rfl,rfl,scaled_3 rfl du su dv sv ou J a0 aC⟩
 case rest =>
  obtain⟨gu,gv,bv,up,vp,rfl,rfl,ao⟩:=hcut;obtain⟨t,rfl⟩:=gn wc;obtain⟨au,hV⟩:=gn (Jj Y d*sc);obtain⟨ch,hX⟩:=gn (Jj oa la*sc);rw[<- hV,<- hX] at ao;obtain⟨du,su,dv,sv,ou,J,rv,aL,bV,ar⟩:=ao;have ck:=qh<|And.intro (And.intro du su) (And.intro ou J);have HD:=qh aL;have aD:=l.o.1.1;have aa:=l.o.2.1
  have aK:au<(pw d:Int):=by rw[hV];exact HP.o.1
  have aJ:(pw n:Int)<=au:=by
   have h1:=HP.o.2;have h2:Jj Y d*1<=Jj Y d*sc:=Int.mul_le_mul_of_nonneg_left p1 (by have:=(JB DA.o.2).1;omega);rw[hV];omega
  have ba:(0:Int)<(pw n:Int):=by have:=Q5 n;omega
  have br:0<au:=Zo;have aT:=jg6 (p:=vp) (m:=n) (V:=au) (by rw[<- aD];exact dv) (by rw[<- aD];exact sv) (by rw[<- aD];exact aK) aJ;rw[<- aD] at aT;have ah:=qh aT;have q:=qh<|And.intro (And.intro hV hX) (And.intro aK (And.intro aJ br))
  have bs:ch<au*(pw K:Int):=by
   have b:=JB DA.o.1;have e1:Jj oa la*sc<(pw la:Int)*sc:=Int.mul_lt_mul_of_pos_right b.2 Zo
   have e2:(pw la:Int)*sc<=au*(pw K:Int):=by
    have h3:(pw la:Int)=(pw n:Int)*(pw K:Int):=by rw[<- Int.natCast_mul,<- V4];congr 1;congr 1;have:=l.o;omega
    rw[h3,hV,Int.mul_assoc,Int.mul_assoc];have h4:=HP.o.2;have h5:(pw n:Int)*((pw K:Int)*sc)<=Jj Y d*((pw K:Int)*sc):=Int.mul_le_mul_of_nonneg_right h4 (Int.mul_nonneg Zo Zo);rwa [Int.mul_comm (pw K:Int) sc] at h5 ⊢
   rw[hX];omega
  have b2:=run_make_row' (P:=prog) 28 128 (.int .u32 0) 4 underlying28 QQ rfl .i64 .i64 K Zo Zo;have xl:(z:Int)-(d:Int)=(K:Int):=Zo;have cM:=IntWalk.i64_in ((z:Int)-(d:Int)) Zo;have xw:=IntWalk.i64_in (K:Int) Zo;have cF:=IntWalk.i64_in ((K:Int)-1) Zo;have cN:(0:Int)<(K:Int):=Zo;have cO:(0:Int)<=(K:Int):=Zo;have cP:max (0:Int) (K:Int)=(K:Int):=Zo
  have bu:Dig vp d:=λk hk=>dv k Zo
  have W0:=qh (show Kg X (t.alloc (.cells (madeCells #[Value.int .u32 0] K) 128)) gu t.heap.size gv bv d z K (d+1) up (λ_=>0) vp from
   ⟨ou.JD _,Own.Xa (World.rowIs_made t (.int .u32 0) K 128) ar.size (λT hi=>Zo),(J.less Zo).JD _,rv.alloc _,ar.alloc ar.size _⟩)
  have D0:=qh<|show DivI ch au d z K K up (λ_=>0) from⟨du,λk _=>⟨Zo,Zo⟩,λ_ _=>rfl,by rw[Nat.sub_self,Jj,su];simp,by rw[su];exact bs⟩;have Z:=qh<|show(gu≠gv/\gu≠bv/\gv≠bv)/\(gu<t.heap.size/\gv<t.heap.size/\bv<t.heap.size) from⟨aL,(ou.blk rfl).2.2,(J.blk rfl).2.2,rv.lt⟩;have ac:=qh bu;clear du su dv sv ou J rv aL bV ar aD aa aK aJ ba br aT bs bu hV hX;go_wp2_with fail
  go_step3;go_wp2;go_loopw [10] (λiv wr=>∃ T:Nat,T<=K/\iv=.int .i64 ((T:Int)-1)/\∃ up qp,DivI ch au d z K T up qp/\Kg X wr gu t.heap.size gv bv d z K (d+1) up qp vp) (λiv _=>(1+intOf iv).toNat)
  case atStart=>exact⟨K,zj,rfl,up,_,D0.o,W0.o⟩
  case round =>
   obtain⟨p,rfl⟩:=gn wr;obtain⟨T,hi,rfl,c,u,hD,hW⟩:=hrel;have y:=qh hD;have S:=qh hW;clear hD hW b2;by_cases b1:T=0
   ·subst b1;rw[show(((0:Nat):Int)-1) = -1 from rfl];have a8:=sum_low (o:=c) (n:=d) (L:=z) y.o.udig Zo (by have:=y.o.lt;rw[Qj] at this;have:=q.o.2.1;omega);have hb:=y.o.bal;have an:=y.o.lt;rw[Qj,show(λk=>u (0+k))=u from by funext k;rw[Nat.zero_add],Nat.sub_zero] at hb;rw[Qj] at an;have bF:=(JB y.o.udig).1;have hE:=div_end (A:=Jj oa la) (Bv:=Jj Y d) (sc:=sc) (Q:=Jj u K) (R:=Jj c z) Zo (by rw[<- q.o.1.2,<- q.o.1.1];rw[hb];simp) bF (by rw[<- q.o.1.1];simpa using an);have SH:=qh<|jb1 (some ⟨gu,0,none⟩) d z c sc p (S.o.u.less Zo).rd (λk hk=>y.o.udig k Zo) Zo Zo Zo;rw[a8] at SH;have HE:=qh hE;have b8:(d:Int)<=(z:Int):=Zo;have b9:(0:Int)<=(d:Int):=Zo;clear a8 hb an bF hE;go_wp2_with fail
    refine SH.o.mono ?_;rintro e w2 ⟨rp,rfl,dr,sr,bI,bt⟩;have aw:=qh<|And.intro (And.intro dr sr) (And.intro bI bt);clear dr sr bI bt SH;go_wp2_with fail
    rw[Exit.noGoto_ret];go_ret2;exact⟨t.heap.size,p.heap.size,u,rp,rfl,by have:=(S.o.q.blk rfl).2.2;dsimp only at this;omega,y.o.qdig,HE.o.1,aw.o.1.1,aw.o.1.2.trans HE.o.2,S.o.q.below aw.o.2.2,aw.o.2.1.mono S.o.bel.size,S.o.bel.trans (aw.o.2.2.mono S.o.bel.size)⟩
   ·obtain⟨g,rfl⟩:∃ g,T=g+1:=⟨T-1,Zo⟩;rw[show(((g+1:Nat):Int)-1)=(g:Int) by omega];have hH:=y.o.head Zo Zo q.o.2.1 q.o.2.2.2;have HH:=qh hH;have aa:=l.o.2.1;have cG:=IntWalk.i64_in ((g:Int)+(d:Int)) Zo;have cH:=IntWalk.i64_in ((g:Int)+(d:Int)+1) Zo;have cL:=IntWalk.i64_in ((g:Int)-1) Zo;have cI:(g:Int)<=(g:Int)+(d:Int)+1:=Zo;have cJ:(g:Int)+(d:Int)+1<=(z:Int):=Zo;have cK:(0:Int)<=(g:Int):=Zo;have ci:g+d+1-g=d+1:=Zo;clear hH aa
    go_upto_region 9 with (fail)
    obtain⟨Wh,aB⟩:=gn (p.alloc (.cells #[.slice (some ⟨gu,g,none⟩) (d+1) (z-g)] 28));have LW:=qh (show Kg X Wh gu t.heap.size gv bv d z K (d+1) c u vp by rw[aB];exact⟨S.o.u.JD _,S.o.q.JD _,S.o.v.JD _,S.o.vb.alloc _,S.o.bel.alloc S.o.bel.size _⟩);have LH:=qh (show Wh.rowIs p.heap.size 28 1 (λ_=>.slice (some ⟨gu,g,none⟩) (d+1) (z-g)) by rw[aB];exact row_one p _ _);have ak:=qh<|show gu<p.heap.size/\t.heap.size<p.heap.size/\gv<p.heap.size/\bv<p.heap.size/\Wh.heap.size=p.heap.size+1 from⟨(S.o.u.blk rfl).2.2,(S.o.q.blk rfl).2.2,(S.o.v.blk rfl).2.2,S.o.vb.lt,by rw[aB];simp⟩;rw[<- aB];clear aB;have F:=l.o.1.1;have aY:Wh.cell? ⟨p.heap.size,0,none⟩=some (.slice (some ⟨gu,g,none⟩) (d+1) (z-g)):=LH.o.cell (i:=0) Zo;have b3:Wh.cell? ⟨gu,g+d,none⟩=some (.int .u32 (c (g+d))):=LW.o.u.cell Zo;have b4:Wh.cell? ⟨gu,g+n,none⟩=some (.int .u32 (c (g+n))):=LW.o.u.cell Zo;have bh:Wh.cell? ⟨bv,0,none⟩=some (.slice (some ⟨gv,0,none⟩) d (d+1)):=LW.o.vb.cell (i:=0) Zo;have aG:Wh.cell? ⟨gv,n,none⟩=some (.int .u32 (vp n)):=LW.o.v.cell Zo;have d1:=y.o.udig (g+d) Zo;have d2:=y.o.udig (g+n) Zo;have d3:=ac.o n Zo;have d4:=ah.o.2;obtain⟨s,bf⟩:=gn (c (g+d)*1000000000+c (g+n));have y1:=IntWalk.u64_in (c (g+d)) Zo;have y2:=IntWalk.u64_in (c (g+n)) Zo;have y3:=IntWalk.u64_in (c (g+d)*1000000000) Zo;have y4:=IntWalk.u64_in (c (g+d)*1000000000+c (g+n)) Zo;have y5:=IntWalk.u64_in (vp n) Zo;have y6:s.tdiv (vp n)=s/vp n:=Int.tdiv_eq_ediv_of_nonneg Zo
    have y7:¬vp n=0:=Zo;have y8:0<=s/vp n/\s/vp n<=s:=⟨Int.ediv_nonneg Zo Zo,Int.ediv_le_self _ Zo⟩;have y9:=IntWalk.u64_in (s/vp n) Zo;have z1:(d:Int)<((d+1:Nat):Int):=Zo;have z2:(n:Int)<((d+1:Nat):Int):=Zo;have z3:(d:Int)<(d:Int)+1:=Zo;have z4:(n:Int)<(d:Int)+1:=Zo;have z5:n<d+1:=Zo;have aH:=qh bf;have cz:0<=s/\s<=999999999999999999:=Zo;clear F;go_wp2;go_quiet (fail);obtain⟨Wd,am⟩:=gn (Wh.drewN nq)
    have cw:∀ aq,Wd.cell? aq=Wh.cell? aq:=by rw[am];intro aq;rfl
    have LD:=qh (show Kg X Wd gu t.heap.size gv bv d z K (d+1) c u vp from
     have j:=bq am (QC zk nq)
     ⟨LW.o.u.below j,LW.o.q.below j,LW.o.v.below j,LW.o.vb.of_block (j.block _ LW.o.vb.lt),LW.o.bel.trans (j.mono LW.o.bel.size)⟩)
    have bn:=qh (show Wd.rowIs p.heap.size 28 1 (λ_=>.slice (some ⟨gu,g,none⟩) (d+1) (z-g)) by rw[am];exact LH.o);have bT:=qh (show Wd.heap.size=p.heap.size+1 by rw[am];exact ak.o.2.2.2.2);rw[<- am,<- aH.o];have aY:=(cw _).trans aY;have bh:=(cw _).trans bh;have aG:=(cw _).trans aG;clear bf y1 y2 y3 y4 b3 b4 am cw LW LH
    go_upto_region 11 with (fail)
    obtain⟨g0,a2⟩:=gn (if 999999999<s/vp n then 999999999 else s/vp n);rw[<- a2]
    have aQ:g0=min (s/vp n) 999999999:=by rw[a2];split <;> omega
    obtain⟨i,aP⟩:=gn Wd.heap.size;obtain⟨Wg,aA⟩:=gn (Wd.alloc (.cells #[.int .u64 g0] 210));have MW:=qh (show Kg X Wg gu t.heap.size gv bv d z K (d+1) c u vp by rw[aA];exact⟨LD.o.u.JD _,LD.o.q.JD _,LD.o.v.JD _,LD.o.vb.alloc _,LD.o.bel.alloc LD.o.bel.size _⟩);have MH:=qh (show Wg.rowIs p.heap.size 28 1 (λ_=>.slice (some ⟨gu,g,none⟩) (d+1) (z-g)) by rw[aA];exact bn.o.alloc _);have MG:=qh (show Wg.rowIs i 210 1 (λ_=>.int .u64 g0) by rw[aA,aP];exact row_one Wd _ _);have a1:i=p.heap.size+1:=aP.trans bT.o;rw[<- aA,<- aP];clear aA aP LD bn aY bh aG;have F:=l.o.1
    have bE:QN c d g/au<=g0:=by
     have hd:=HH.o;rw[aQ];have tt:=(Uq (f:=λk=>c (g+k)) (m:=n) (λk hk=>y.o.udig (g+k) Zo)).1;have tv:=(Uq (f:=vp) (m:=O) (λk hk=>ac.o k Zo)).2;rw[<- F.1,<- aH.o] at tt;rw[<- F.2,<- F.1,ah.o.1] at tv;have bD:0<=vp O*(pw O:Int):=Int.mul_nonneg (ac.o O Zo).1 Zo
     have ba:(0:Int)<(pw n:Int):=by have:=Q5 n;omega
     refine guess_ge (B1:=(pw n:Int)) d4 ba ?_ hd.1 (by simpa[QN,F.1] using tt) hd.2.1 q.o.2.2.2;rw[Int.add_mul] at tv
     have e:vp n*(pw n:Int)=vp n*1000000000*(pw O:Int):=by rw[F.2,JR,Int.natCast_mul,Int.mul_comm (pw O:Int),<- Int.mul_assoc];rfl
     omega
    have bB:g0*vp n<=s:=by
     have h1:g0<=s/vp n:=Zo;exact(Int.le_ediv_iff_mul_le d4).1 h1
    have a3:0<=g0/\g0<=999999999:=Zo;have bk:=qh<|And.intro (And.intro a3 bE) bB;have a4:0<=g0*vp n:=Int.mul_nonneg a3.1 Zo;have r0:Wg.cell? ⟨i,0,none⟩=some (.int .u64 g0):=MG.o.cell (i:=0) Zo;have r1:Wg.cell? ⟨bv,0,none⟩=some (.slice (some ⟨gv,0,none⟩) d (d+1)):=MW.o.vb.cell (i:=0) Zo;have r2:Wg.cell? ⟨gv,n,none⟩=some (.int .u32 (vp n)):=MW.o.v.cell Zo;have bC:=bC;have cc:=IntWalk.u64_in (g0*vp n) Zo;have cg:=IntWalk.u64_in (s-g0*vp n) Zo;have av:=qh a1;clear aQ bE bB a3 a4 a2 F a1;go_wp2;go_quiet (fail);obtain⟨Wv,aX⟩:=gn (Wg.drewN nq);have j:=bq aX (QC zk nq);have NW:=qh<|show Kg X Wv gu t.heap.size gv bv d z K (d+1) c u vp from⟨MW.o.u.below j,MW.o.q.below j,MW.o.v.below j,MW.o.vb.of_block (j.block _ MW.o.vb.lt),MW.o.bel.trans (j.mono MW.o.bel.size)⟩;have NH:=qh<|MH.o.of_block (j.block _ MH.o.lt);have NG:=qh<|MG.o.of_block (j.block _ MG.o.lt);rw[<- aX];clear aX j r0 r1 r2 MW MH MG cc cg;go_wp2
    go_loopw [14] (λJ wx=>∃ H:Int,((0<=H/\H<=999999999)/\QN c d g/au<=H)/\H*vp n<=s/\J=.int .u64 (s-H*vp n)/\Kg X wx gu t.heap.size gv bv d z K (d+1) c u vp /\
     wx.rowIs p.heap.size 28 1 (λ_=>.slice (some ⟨gu,g,none⟩) (d+1) (z-g))/\wx.rowIs i 210 1 (λ_=>.int .u64 H)) (λJ _=>(1000000000-intOf J).toNat)
    case atStart=>exact⟨g0,bk.o.1,bk.o.2,rfl,NW.o,NH.o,NG.o⟩
    case round =>
     obtain⟨H,hg,b0,rfl,hW,hH,hG⟩:=hrel;have OW:=qh hW;have OH:=qh hH;have OG:=qh hG;have OB:=qh hg;have aG:=ac.o n (by have:=l.o.1;omega);have a4:0<=H*vp n:=Int.mul_nonneg hg.1.1 aG.1;obtain⟨J,a9⟩:=gn (s-H*vp n);have cu:0<=J/\J<=999999999999999999:=Zo;have bm:=qh a9;rw[<- a9];have bi:=ac.o O (by have:=l.o.1;omega);have b5:=y.o.udig (g+O) (Zh l);have aQ:0<=H*vp O/\H*vp O<=999999999*999999999:=⟨Int.mul_nonneg hg.1.1 bi.1,Int.mul_le_mul hg.1.2 Zo bi.1 Zo⟩;obtain⟨gm,aM⟩:=gn (H*vp O);rw[<- aM] at aQ;have aO:=qh aM;have r0:wr.cell? ⟨i,0,none⟩=some (.int .u64 H):=hG.cell (i:=0) Zo;have r1:wr.cell? ⟨bv,0,none⟩=some (.slice (some ⟨gv,0,none⟩) d (d+1)):=hW.vb.cell (i:=0) Zo;have r2:wr.cell? ⟨p.heap.size,0,none⟩=some (.slice (some ⟨gu,g,none⟩) (d+1) (z-g)):=hH.cell (i:=0) Zo;have r3:wr.cell? ⟨gv,n,none⟩=some (.int .u32 (vp n)):=hW.v.cell (by have:=l.o.1;omega);have r4:wr.cell? ⟨gv,O,none⟩=some (.int .u32 (vp O)):=hW.v.cell (by have:=l.o.1;omega);have r5:wr.cell? ⟨gu,g+O,none⟩=some (.int .u32 (c (g+O))):=hW.u.cell (Zh l);have fz:=hG.frozen;have b6:¬bv=i:=Zi ak av;have b7:¬gv=i:=Zi ak av
     have cA:¬i=bv:=λaI=>b6 aI.symm
     have cB:¬i=gv:=λaI=>b7 aI.symm
     have xm:(d:Int)-2=(O:Int):=by have:=l.o.1;omega
     have cQ:=IntWalk.i64_in ((d:Int)-2) Zo
     have cR:(O:Int)<(d:Int):=by have:=l.o.1;omega
     have cT:(O:Int)<(d:Int)+1:=Zo;have cU:O<d:=Zo;have bJ:=IntWalk.u64_in (vp O) Zo;have bK:=IntWalk.u64_in (vp n) Zo;have bL:=IntWalk.u64_in gm Zo;have bM:=IntWalk.u64_in (c (g+O)) Zo;have bN:=IntWalk.u64_in H Zo;clear hW hH hG hg b0 a4 bi b5 a9 aM;by_cases an:J<1000000000
     ·have cC:=IntWalk.u64_in (J*1000000000) Zo;have bO:=IntWalk.u64_in (J*1000000000+c (g+O)) (by have:=y.o.udig (g+O) (Zh l);omega);have cl:H*vp O=gm:=aO.o.symm;by_cases bA:gm>J*1000000000+c (g+O)
      ·have bP:=IntWalk.u64_in (H-1) (by have:=OB.o;have:H≠0:=(λaI=>by rw[aO.o,aI,Int.zero_mul] at bA;have:=y.o.udig (g+O) (Zh l);omega);omega);have cE:=IntWalk.u64_in (J+vp n) Zo;have F:=l.o.1
       have bS:=qh (show QN c d g/au<=H-1 from by
        have tt:=jjh (f:=λk=>c (g+k)) (m:=O) (λk hk=>y.o.udig (g+k) (Zh l));have tv:=(Uq (f:=vp) (m:=O) (λk hk=>ac.o k Zo)).2
        have bD:(0:Int)<(pw O:Int):=by have:=Q5 O;omega
        rw[<- F.2,<- F.1,ah.o.1] at tv;refine jgp (v1:=vp n) (v2:=vp O) (two:=s) (h2:=c (g+O)) bD tv ?_ OB.o.1.1 (by rw[<- bm.o,<- aO.o];omega) OB.o.2 q.o.2.2.2
        have e:s=c (g+(O+1+1))*1000000000+c (g+(O+1)):=by rw[aH.o,F.1,F.2]
        rw[e]
        simpa[QN,F.1,F.2] using tt)
       have aN:=qh (show 0<=H-1/\H-1<=999999999/\(H-1)*vp n<=s/\J+vp n=s-(H-1)*vp n from by
        have h1:=OB.o;have h2:H≠0:=(λaI=>by rw[aO.o,aI,Int.zero_mul] at bA;have:=y.o.udig (g+O) (Zh l);omega)
        have h3:(H-1)*vp n=H*vp n-vp n:=by rw[Int.sub_mul,Int.one_mul]
        have h4:=bm.o
        omega)
       have U:=qh (show(gu≠i/\t.heap.size≠i/\gv≠i/\bv≠i)/\X.heap.size<=i/\p.heap.size≠i by have:=ak.o;have:=av.o;have:=S.o.bel.size;omega);clear F;go_wp2;go_quiet (fail);go_wp2;go_roundw
       case rel=>exact⟨H-1,⟨⟨aN.o.1,aN.o.2.1⟩,bS.o⟩,aN.o.2.2.1,by rw[aN.o.2.2.2],(OW.o.drewN nq).V6 U.o.1 U.o.2.1 _,World.rowIs.setOther (w:=wr.drewN nq) OH.o U.o.2.2 _,(World.rowIs.set (w:=wr.drewN nq) OG.o 0 _).congr (λT hi=>by rw[if_pos Zo])⟩
       case measure=>simp[intOf];omega
      ·go_wp2;go_quiet (fail);obtain⟨wy,aj⟩:=gn (wr.drewN nq);rw[<- aj];have j:=bq aj (QC zk nq);have PW:=qh<|show Kg X wy gu t.heap.size gv bv d z K (d+1) c u vp from⟨OW.o.u.below j,OW.o.q.below j,OW.o.v.below j,OW.o.vb.of_block (j.block _ OW.o.vb.lt),OW.o.bel.trans (j.mono OW.o.bel.size)⟩;have PH:=qh<|OH.o.of_block (j.block _ OH.o.lt);have PG:=qh<|OG.o.of_block (j.block _ OG.o.lt);have r0:wy.cell? ⟨i,0,none⟩=some (.int .u64 H):=PG.o.cell (i:=0) Zo;clear aj j r1 r2 r3 r4 r5 fz bJ bK bL bM bN OW OH OG;by_cases hz:H=0
       ·have KS:=qh<|y.o.skip Zo Zo q.o.2.1 q.o.2.2.2 (by have:=OB.o.2;omega);subst hz;go_wp2;go_roundw
        case rel=>exact⟨g,Zo,rfl,c,u,KS.o,PW.o⟩
        case measure=>simp[intOf];omega
       ·have a5:(H==0)=false:=by simpa using hz
        go_wp2_with fail
        clear r0 a5
        go_loopw [15] (λlv wx=>(∃ v:Value,lv=v)/\∃ H:Int,((0<=H/\H<=999999999)/\QN c d g/au<=H)/\Kg X wx gu t.heap.size gv bv d z K (d+1) c u vp /\
         wx.rowIs p.heap.size 28 1 (λ_=>.slice (some ⟨gu,g,none⟩) (d+1) (z-g))/\wx.rowIs i 210 1 (λ_=>.int .u64 H)) (λ_ wx=>boxN wx i)
        case atStart=>exact⟨⟨_,rfl⟩,H,OB.o,PW.o,PH.o,PG.o⟩
        case round =>
         obtain⟨⟨lv,rfl⟩,h,aE,hW,hH,hG⟩:=hrel;have D:=qh hW;have QH:=qh hH;have QG:=qh hG;have C:=qh aE;have aS:=qh<|YY hG;have r0:wr.cell? ⟨i,0,none⟩=some (.int .u64 h):=hG.cell (i:=0) Zo;have r1:wr.cell? ⟨bv,0,none⟩=some (.slice (some ⟨gv,0,none⟩) d (d+1)):=hW.vb.cell (i:=0) Zo;have r2:wr.cell? ⟨p.heap.size,0,none⟩=some (.slice (some ⟨gu,g,none⟩) (d+1) (z-g)):=hH.cell (i:=0) Zo;have aa:=l.o.2.1
         have W:∀ k,0<=part vp d k/\part vp d k<=999999999:=by
          intro k;unfold part;split
          ·have:=ac.o k Zo;omega
          ·omega
         have aU:=D
         have CA:=qh (KZ 250 #[.pointer (some ⟨p.heap.size,0,none⟩),.pointer (some ⟨i,0,none⟩),.pointer (some ⟨bv,0,none⟩)] (d+1) (Zy c vp g d h) (-999999999) 1 wr Zo ja0
          (λk hk v1 ab=>jgm v1 p.heap.size i bv gu g d (z-g) (d+1) (some ⟨gv,0,none⟩) c vp h k ((ab.cell (p:=⟨p.heap.size,0,none⟩) QH.o.lt).trans r2) ((ab.cell (p:=⟨i,0,none⟩) QG.o.lt).trans r0) ((ab.cell (p:=⟨bv,0,none⟩) D.o.vb.lt).trans r1)
           ((D.o.u.below ab).cell Zo) Zo ((D.o.v.less Zo).below ab).rd Zo C.o.1 (by have:=y.o.udig (g+k) Zo;omega) (W k))
          (λk hk=>by
           have h1:=y.o.udig (g+k) Zo;have h2:=W k;have h3:h*part vp d k<=999999999*999999999:=Int.mul_le_mul C.o.1.2 h2.2 h2.1 Zo;have h4:0<=h*part vp d k:=Int.mul_nonneg C.o.1.1 h2.1;unfold Zy
           omega) Zo Zo Zo Zo)
         rw[show((d+1:Nat):Int)=(d:Int)+1 from rfl] at CA;have xK:=IntWalk.i64_in ((d:Int)+1) Zo;clear aE hW hH hG aa W;go_wp2_with fail
         refine CA.o.mono ?_;rintro e w4 ⟨rfl,az,B⟩;have I:=qh<|show Kg X w4 gu t.heap.size gv bv d z K (d+1) c u vp from⟨D.o.u.below B,D.o.q.below B,D.o.v.below B,D.o.vb.of_block (B.block _ D.o.vb.lt),D.o.bel.trans (B.mono D.o.bel.size)⟩;have RH:=qh<|QH.o.of_block (B.block _ QH.o.lt);have RG:=qh<|QG.o.of_block (B.block _ QG.o.lt);have RO:=qh az;clear az B CA r0 r1 r2 D QH QG;have r0:w4.cell? ⟨i,0,none⟩=some (.int .u64 h):=RG.o.cell (i:=0) Zo;have r1:w4.cell? ⟨bv,0,none⟩=some (.slice (some ⟨gv,0,none⟩) d (d+1)):=I.o.vb.cell (i:=0) Zo;have r2:w4.cell? ⟨p.heap.size,0,none⟩=some (.slice (some ⟨gu,g,none⟩) (d+1) (z-g)):=RH.o.cell (i:=0) Zo;have BL:=qh<|jb6 (some ⟨gu,g,none⟩) (some ⟨gv,0,none⟩) (d+1) (z-g) d (d+1) (λk=>c (g+k)) vp h w4 (Rd.at_own I.o.u Zo) (I.o.v.less Zo).rd (λk hk=>y.o.udig (g+k) Zo) ac.o (by have:=l.o.2.1;omega) (by have:=l.o.2.1;omega) C.o.1;rw[show Jj (λk=>c (g+k)) (d+1)=QN c d g from rfl,ah.o.1] at BL;go_wp2_with fail
         refine BL.o.mono ?_;rintro e w5 ⟨rfl,x⟩;have E:=qh<|show Kg X w5 gu t.heap.size gv bv d z K (d+1) c u vp from⟨I.o.u.below x,I.o.q.below x,I.o.v.below x,I.o.vb.of_block (x.block _ I.o.vb.lt),I.o.bel.trans (x.mono I.o.bel.size)⟩;have SH:=qh<|RH.o.of_block (x.block _ RH.o.lt);have SG:=qh<|RG.o.of_block (x.block _ RG.o.lt);have SO:=qh<|RO.o.below x;clear x BL r0 r1 r2 I RH RG RO;have r0:w5.cell? ⟨i,0,none⟩=some (.int .u64 h):=SG.o.cell (i:=0) Zo;have r2:w5.cell? ⟨p.heap.size,0,none⟩=some (.slice (some ⟨gu,g,none⟩) (d+1) (z-g)):=SH.o.cell (i:=0) Zo;have fz:=SG.o.frozen;have U:=qh (show(gu≠i/\t.heap.size≠i/\gv≠i/\bv≠i)/\X.heap.size<=i/\p.heap.size≠i/\gu<wr.heap.size by have:=ak.o;have:=av.o;have:=S.o.bel.size;have:=Z.o;have:=(aU.o.u.blk rfl).2.2;dsimp only at this;omega);by_cases ad:QN c d g<au*h
         ·have a6:=HH.o.1
          have aF:1<=h:=by
           rcases Int.lt_or_le 0 h with aI | aI
           ·omega
           ·have:=C.o.1.1;rw[show h=0 by omega,Int.mul_zero] at ad;omega
          have bP:=IntWalk.u64_in (h-1) (by have:=C.o.1;omega);have ag:=qh<|And.intro (Uo q.o.2.2.2 C.o.2 ad) aF;clear a6 aF;go_wp2;go_roundw
          case rel=>exact⟨⟨_,rfl⟩,h-1,⟨⟨by have:=ag.o.2;omega,by have:=C.o.1;omega⟩,ag.o.1⟩,E.o.V6 U.o.1 U.o.2.1 _,World.rowIs.setOther (a:=⟨i,0,none⟩) SH.o U.o.2.2.1 _,(SG.o.set 0 _).congr (λT hi=>by rw[if_pos Zo])⟩
          case measure =>
           have e1:=YY ((SG.o.set 0 (.int .u64 (h-1))).congr (g:=λ_=>.int .u64 (h-1)) (λT hi=>by rw[if_pos Zo]));rw[e1,aS.o];have:=ag.o.2;omega
         ·obtain⟨aV,ax,ay⟩:=VE q.o.2.2.2 C.o.2 ad;have aa:=l.o.2.1
          have ai:Jj (cD (Zy c vp g d h)) (d+1)=QN c d g-au*h:=by
           have h1:=jb9 c vp g d h;rw[ah.o.1] at h1;rw[(Yi (by rw[h1];exact ax) (by rw[h1,JR,Int.natCast_mul];have:=q.o.2.1;omega)).2,h1]
          have ST:=qh<|y.o.step (g:=h) (r:=cD (Zy c vp g d h)) Zo Zo q.o.2.1 q.o.2.2.2 (by have:=C.o.1;omega) (QM _ _) ai ay;obtain⟨vc,w6,bQ,ae,G⟩:=jfw (r:=cD (Zy c vp g d h)) E.o.u (i:=g) (m:=d+1) Zo Zo SO.o.rd 3 (z-g) (d+1);have aR:=qh ae;have af:=qh G;have bO:=IntWalk.u32_in h (by have:=C.o.1;omega);have bR:=E.o.bel.size;have TG:=qh<|SG.o.of_block (G.block i SG.o.lt (λe=>by have:=U.o.1.1;cases e;contradiction));have TQ:=qh (E.o.q.keep λaq V=>G.block _ (E.o.q.blk V).2.2 (λe=>by have:=Z.o;have:=(S.o.u.blk rfl).2.2;cases V;cases e;have h9:=Z.o.2.1;dsimp only at *;omega));have r5:w6.cell? ⟨i,0,none⟩=some (.int .u64 h):=TG.o.cell (i:=0) Zo;obtain⟨vo,r6⟩:∃ vo,w6.cell? ⟨t.heap.size,g,none⟩=some vo:=⟨_,TQ.o.cell Zo⟩;have fq:=TQ.o.fz;clear ae G aV ax ay ai aa
          have HF:=qh (show Kg X (w6.setCell ⟨t.heap.size,g,none⟩ (.int .u32 h)) gu t.heap.size gv bv d z K (d+1) (splice c g (d+1) (cD (Zy c vp g d h))) (upd u g h) vp from by
           have hd:=Z.o
           have bj:=E.o.v.keep (w':=w6) λaq V=>af.o.block _ (E.o.v.blk V).2.2 (λe=>by cases V;cases e;exact hd.1.1 rfl)
           have aZ:=E.o.vb.of_block (w':=w6) (af.o.block _ E.o.vb.lt (λe=>by cases e;exact hd.1.2.1 rfl));have a7:Bl X w6:=E.o.bel.grown af.o E.o.bel.size (λk hk=>by cases hk;exact(E.o.u.blk rfl).2.1)
           refine⟨aR.o.keep λaq V=>Below.heap_setCell _ _ _ _ (by cases V;dsimp only;omega),TQ.o.put Zo (by have:=C.o.1;omega),bj.keep λaq V=>Below.heap_setCell _ _ _ _ (by cases V;dsimp only;omega),aZ.setOther Zd _,a7.setCell (p:=⟨t.heap.size,g,none⟩) (TQ.o.blk rfl).2.1 _⟩)
          go_wp2;go_roundw
          case rel=>exact⟨g,Zo,rfl,_,_,ST.o,HF.o⟩
          case measure=>simp[intOf];omega
     ·have cs:¬J<1000000000:=an;have cr:decide (J<1000000000)=false:=zo an;go_wp2;go_quiet (fail);obtain⟨wy,aj⟩:=gn (wr.drewN nq);rw[<- aj];have j:=bq aj (QC zk nq);have PW:=qh<|show Kg X wy gu t.heap.size gv bv d z K (d+1) c u vp from⟨OW.o.u.below j,OW.o.q.below j,OW.o.v.below j,OW.o.vb.of_block (j.block _ OW.o.vb.lt),OW.o.bel.trans (j.mono OW.o.bel.size)⟩;have PH:=qh<|OH.o.of_block (j.block _ OH.o.lt);have PG:=qh<|OG.o.of_block (j.block _ OG.o.lt);have r0:wy.cell? ⟨i,0,none⟩=some (.int .u64 H):=PG.o.cell (i:=0) Zo;clear aj j r1 r2 r3 r4 r5 fz bJ bK bL bM bN OW OH OG;by_cases hz:H=0
      ·have KS:=qh<|y.o.skip Zo Zo q.o.2.1 q.o.2.2.2 (by have:=OB.o.2;omega);subst hz;go_wp2;go_roundw
       case rel=>exact⟨g,Zo,rfl,c,u,KS.o,PW.o⟩
       case measure=>simp[intOf];omega
      ·have a5:(H==0)=false:=by simpa using hz
       go_wp2_with fail
       clear r0 a5
       go_loopw [15] (λlv wx=>(∃ v:Value,lv=v)/\∃ H:Int,((0<=H/\H<=999999999)/\QN c d g/au<=H)/\Kg X wx gu t.heap.size gv bv d z K (d+1) c u vp /\
        wx.rowIs p.heap.size 28 1 (λ_=>.slice (some ⟨gu,g,none⟩) (d+1) (z-g))/\wx.rowIs i 210 1 (λ_=>.int .u64 H)) (λ_ wx=>boxN wx i)
       case atStart=>exact⟨⟨_,rfl⟩,H,OB.o,PW.o,PH.o,PG.o⟩
       case round =>
        obtain⟨⟨lv,rfl⟩,h,aE,hW,hH,hG⟩:=hrel;have D:=qh hW;have QH:=qh hH;have QG:=qh hG;have C:=qh aE;have aS:=qh<|YY hG;have r0:wr.cell? ⟨i,0,none⟩=some (.int .u64 h):=hG.cell (i:=0) Zo;have r1:wr.cell? ⟨bv,0,none⟩=some (.slice (some ⟨gv,0,none⟩) d (d+1)):=hW.vb.cell (i:=0) Zo;have r2:wr.cell? ⟨p.heap.size,0,none⟩=some (.slice (some ⟨gu,g,none⟩) (d+1) (z-g)):=hH.cell (i:=0) Zo;have aa:=l.o.2.1
        have W:∀ k,0<=part vp d k/\part vp d k<=999999999:=by
         intro k;unfold part;split
         ·have:=ac.o k Zo;omega
         ·omega
        have aU:=D
        have CA:=qh (KZ 250 #[.pointer (some ⟨p.heap.size,0,none⟩),.pointer (some ⟨i,0,none⟩),.pointer (some ⟨bv,0,none⟩)] (d+1) (Zy c vp g d h) (-999999999) 1 wr Zo ja0
         (λk hk v1 ab=>jgm v1 p.heap.size i bv gu g d (z-g) (d+1) (some ⟨gv,0,none⟩) c vp h k ((ab.cell (p:=⟨p.heap.size,0,none⟩) QH.o.lt).trans r2) ((ab.cell (p:=⟨i,0,none⟩) QG.o.lt).trans r0) ((ab.cell (p:=⟨bv,0,none⟩) D.o.vb.lt).trans r1)
          ((D.o.u.below ab).cell Zo) Zo ((D.o.v.less Zo).below ab).rd Zo C.o.1 (by have:=y.o.udig (g+k) Zo;omega) (W k))
         (λk hk=>by
          have h1:=y.o.udig (g+k) Zo;have h2:=W k;have h3:h*part vp d k<=999999999*999999999:=Int.mul_le_mul C.o.1.2 h2.2 h2.1 Zo;have h4:0<=h*part vp d k:=Int.mul_nonneg C.o.1.1 h2.1;unfold Zy
          omega) Zo Zo Zo Zo)
        rw[show((d+1:Nat):Int)=(d:Int)+1 from rfl] at CA;have xK:=IntWalk.i64_in ((d:Int)+1) Zo;clear aE hW hH hG aa W;go_wp2_with fail
        refine CA.o.mono ?_;rintro e w4 ⟨rfl,az,B⟩;have I:=qh<|show Kg X w4 gu t.heap.size gv bv d z K (d+1) c u vp from⟨D.o.u.below B,D.o.q.below B,D.o.v.below B,D.o.vb.of_block (B.block _ D.o.vb.lt),D.o.bel.trans (B.mono D.o.bel.size)⟩;have RH:=qh<|QH.o.of_block (B.block _ QH.o.lt);have RG:=qh<|QG.o.of_block (B.block _ QG.o.lt);have RO:=qh az;clear az B CA r0 r1 r2 D QH QG;have r0:w4.cell? ⟨i,0,none⟩=some (.int .u64 h):=RG.o.cell (i:=0) Zo;have r1:w4.cell? ⟨bv,0,none⟩=some (.slice (some ⟨gv,0,none⟩) d (d+1)):=I.o.vb.cell (i:=0) Zo;have r2:w4.cell? ⟨p.heap.size,0,none⟩=some (.slice (some ⟨gu,g,none⟩) (d+1) (z-g)):=RH.o.cell (i:=0) Zo;have BL:=qh<|jb6 (some ⟨gu,g,none⟩) (some ⟨gv,0,none⟩) (d+1) (z-g) d (d+1) (λk=>c (g+k)) vp h w4 (Rd.at_own I.o.u Zo) (I.o.v.less Zo).rd (λk hk=>y.o.udig (g+k) Zo) ac.o (by have:=l.o.2.1;omega) (by have:=l.o.2.1;omega) C.o.1;rw[show Jj (λk=>c (g+k)) (d+1)=QN c d g from rfl,ah.o.1] at BL;go_wp2_with fail
        refine BL.o.mono ?_;rintro e w5 ⟨rfl,x⟩;have E:=qh<|show Kg X w5 gu t.heap.size gv bv d z K (d+1) c u vp from⟨I.o.u.below x,I.o.q.below x,I.o.v.below x,I.o.vb.of_block (x.block _ I.o.vb.lt),I.o.bel.trans (x.mono I.o.bel.size)⟩;have SH:=qh<|RH.o.of_block (x.block _ RH.o.lt);have SG:=qh<|RG.o.of_block (x.block _ RG.o.lt);have SO:=qh<|RO.o.below x;clear x BL r0 r1 r2 I RH RG RO;have r0:w5.cell? ⟨i,0,none⟩=some (.int .u64 h):=SG.o.cell (i:=0) Zo;have r2:w5.cell? ⟨p.heap.size,0,none⟩=some (.slice (some ⟨gu,g,none⟩) (d+1) (z-g)):=SH.o.cell (i:=0) Zo;have fz:=SG.o.frozen;have U:=qh (show(gu≠i/\t.heap.size≠i/\gv≠i/\bv≠i)/\X.heap.size<=i/\p.heap.size≠i/\gu<wr.heap.size by have:=ak.o;have:=av.o;have:=S.o.bel.size;have:=Z.o;have:=(aU.o.u.blk rfl).2.2;dsimp only at this;omega);by_cases ad:QN c d g<au*h
        ·have a6:=HH.o.1
         have aF:1<=h:=by
          rcases Int.lt_or_le 0 h with aI | aI
          ·omega
          ·have:=C.o.1.1;rw[show h=0 by omega,Int.mul_zero] at ad;omega
         have bP:=IntWalk.u64_in (h-1) (by have:=C.o.1;omega);have ag:=qh<|And.intro (Uo q.o.2.2.2 C.o.2 ad) aF;clear a6 aF;go_wp2;go_roundw
         case rel=>exact⟨⟨_,rfl⟩,h-1,⟨⟨by have:=ag.o.2;omega,by have:=C.o.1;omega⟩,ag.o.1⟩,E.o.V6 U.o.1 U.o.2.1 _,World.rowIs.setOther (a:=⟨i,0,none⟩) SH.o U.o.2.2.1 _,(SG.o.set 0 _).congr (λT hi=>by rw[if_pos Zo])⟩
         case measure =>
          have e1:=YY ((SG.o.set 0 (.int .u64 (h-1))).congr (g:=λ_=>.int .u64 (h-1)) (λT hi=>by rw[if_pos Zo]));rw[e1,aS.o];have:=ag.o.2;omega
        ·obtain⟨aV,ax,ay⟩:=VE q.o.2.2.2 C.o.2 ad;have aa:=l.o.2.1
         have ai:Jj (cD (Zy c vp g d h)) (d+1)=QN c d g-au*h:=by
          have h1:=jb9 c vp g d h;rw[ah.o.1] at h1;rw[(Yi (by rw[h1];exact ax) (by rw[h1,JR,Int.natCast_mul];have:=q.o.2.1;omega)).2,h1]
         have ST:=qh<|y.o.step (g:=h) (r:=cD (Zy c vp g d h)) Zo Zo q.o.2.1 q.o.2.2.2 (by have:=C.o.1;omega) (QM _ _) ai ay;obtain⟨vc,w6,bQ,ae,G⟩:=jfw (r:=cD (Zy c vp g d h)) E.o.u (i:=g) (m:=d+1) Zo Zo SO.o.rd 3 (z-g) (d+1);have aR:=qh ae;have af:=qh G;have bO:=IntWalk.u32_in h (by have:=C.o.1;omega);have bR:=E.o.bel.size;have TG:=qh<|SG.o.of_block (G.block i SG.o.lt (λe=>by have:=U.o.1.1;cases e;contradiction));have TQ:=qh (E.o.q.keep λaq V=>G.block _ (E.o.q.blk V).2.2 (λe=>by have:=Z.o;have:=(S.o.u.blk rfl).2.2;cases V;cases e;have h9:=Z.o.2.1;dsimp only at *;omega));have r5:w6.cell? ⟨i,0,none⟩=some (.int .u64 h):=TG.o.cell (i:=0) Zo;obtain⟨vo,r6⟩:∃ vo,w6.cell? ⟨t.heap.size,g,none⟩=some vo:=⟨_,TQ.o.cell Zo⟩;have fq:=TQ.o.fz;clear ae G aV ax ay ai aa
         have HF:=qh (show Kg X (w6.setCell ⟨t.heap.size,g,none⟩ (.int .u32 h)) gu t.heap.size gv bv d z K (d+1) (splice c g (d+1) (cD (Zy c vp g d h))) (upd u g h) vp from by
          have hd:=Z.o
          have bj:=E.o.v.keep (w':=w6) λaq V=>af.o.block _ (E.o.v.blk V).2.2 (λe=>by cases V;cases e;exact hd.1.1 rfl)
          have aZ:=E.o.vb.of_block (w':=w6) (af.o.block _ E.o.vb.lt (λe=>by cases e;exact hd.1.2.1 rfl));have a7:Bl X w6:=E.o.bel.grown af.o E.o.bel.size (λk hk=>by cases hk;exact(E.o.u.blk rfl).2.1)
          refine⟨aR.o.keep λaq V=>Below.heap_setCell _ _ _ _ (by cases V;dsimp only;omega),TQ.o.put Zo (by have:=C.o.1;omega),bj.keep λaq V=>Below.heap_setCell _ _ _ _ (by cases V;dsimp only;omega),aZ.setOther Zd _,a7.setCell (p:=⟨t.heap.size,g,none⟩) (TQ.o.blk rfl).2.1 _⟩)
         go_wp2;go_roundw
         case rel=>exact⟨g,Zo,rfl,_,_,ST.o,HF.o⟩
         case measure=>simp[intOf];omega
end Limb
namespace Book
open Go.RowKit Go.Sort Go.FreshH Limb
theorem isT_eq (a:Nat) (b:World):(binOp BinOp.eql 35 (.agg #[.int .u16 ((a:Int)+2),.int .u16 0,.int .u16 0,.int .u16 0]) (.agg #[.int .u16 ((a:Int)+2),.int .u16 0,.int .u16 0,.int .u16 0])).run prog b=.ok (.bool true) b:=by
 have c:=Mono.jik ((a:Int)+2) 0 0 0 ((a:Int)+2) 0 0 0 b;have e:binOp BinOp.eql 35 (Mono.mv ((a:Int)+2) 0 0 0) (Mono.mv ((a:Int)+2) 0 0 0)=(do pure (.bool (<- Op.equal 35 (Mono.mv ((a:Int)+2) 0 0 0) (Mono.mv ((a:Int)+2) 0 0 0)))):=rfl;show(binOp BinOp.eql 35 (Mono.mv ((a:Int)+2) 0 0 0) (Mono.mv ((a:Int)+2) 0 0 0)).run prog b=_;rw[e,Sem.run_bind];rw[show(Op.equal 35 (Mono.mv ((a:Int)+2) 0 0 0) (Mono.mv ((a:Int)+2) 0 0 0)).run prog b=_ from c];simp
theorem jdm (a:Nat) (d:World) (l:a<=30000):Cl 134 #[.agg #[.bool false,.slice none 0 0,.bool false,.slice none 0 0,.int .u16 ((a:Int)+2),.int .u16 0,.int .u16 0,.int .u16 0],.int .i64 ((a:Int)+1)] d λe b=>e=.returned (.bool true)/\Bl d b:=by
 have f:=IntWalk.i64_in ((a:Int)+1) Zo;have g:=IntWalk.i64_in (1+((a:Int)+1)) Zo;have h:=IntWalk.u16_in (1+((a:Int)+1)) Zo;have i:((a:Int)+1).tmod 60000=(a:Int)+1:=Int.tmod_eq_of_lt Zo Zo;have j:((a:Int)+1).tdiv 60000=0:=Int.tdiv_eq_zero_of_lt Zo Zo;have k:1+((a:Int)+1)=(a:Int)+2:=Zo;have c:=isT_eq a;go_enter func134,ntmps134;go_wp2;go_ret;exact⟨rfl,zk.alloc zj _⟩
theorem mark8 {c:World} {base b n d f:Nat} (g:Qe c base (some ⟨b,0,none⟩) n d (mcf f)) {a:Nat} (j:a<n) :
  c.cell? ⟨b,a*8,none⟩=some (.bool false)/\c.cell? ⟨b,a*8+1,none⟩=some (.slice none 0 0)/\c.cell? ⟨b,a*8+2,none⟩=some (.bool false)/\c.cell? ⟨b,a*8+3,none⟩=some (.slice none 0 0)/\c.cell? ⟨b,a*8+4,none⟩=some (.int .u16 ((f:Int)+2)) /\
  c.cell? ⟨b,a*8+5,none⟩=some (.int .u16 0)/\c.cell? ⟨b,a*8+6,none⟩=some (.int .u16 0)/\c.cell? ⟨b,a*8+7,none⟩=some (.int .u16 0):=by
 have k:∀ r,r<8->c.cell? ⟨b,a*8+r,none⟩=some (mc f r):=λr h=>by
  rw[g.cell (i:=a*8+r) Zo];unfold mcf;rw[show(a*8+r)%8=r by omega]
 exact⟨k 0 Ze,k 1 Ze,k 2 Ze,k 3 Ze,k 4 Ze,k 5 Ze,k 6 Ze,k 7 Ze⟩
theorem jca (b vb k K:Nat) (aj LA:Nat->Option Addr) (N ak LC:Nat->Nat) (f:Nat->Value) (i:Nat->Nat) (w:World) (hk:k<=30000) (Z:∀ j,j<k->i j<=30000) (hB:w.rowIs b 59 13 f) (hf:f 6=.slice (some ⟨vb,0,none⟩) k K)
  (hA:Yo i w vb k aj N ak (λj=>.slice (LA j) (N j+40) (LC j))) (hO:∀ j,j<k->Qe w 0 (aj j) (N j) (ak j) (mcf (i j))) (hL:∀ j,j<k->Qe w 0 (LA j) (N j+40) (LC j) (mcf (i j))) (hN:∀ j,j<k->N j<=100000000) :
  Cl 74 #[.pointer (some ⟨b,0,none⟩)] w λe a=>e=.returned (.bool true)/\Bl w a:=by
 have HF:=qh hf;have af:=qh Z;have HB:=qh hB;have HA:=qh hA;have HO:=qh hO;have HL:=qh hL;have HN:=qh hN;clear hB hA hO hL hN hf Z;go_enter func74,ntmps74;go_wp2;go_loopw [3] (λv wr=>∃ h:Nat,h<=k/\v=.int .i64 h/\Bl w wr) (λv _=>k-(intOf v).toNat)
 case atStart=>exact⟨0,Zo,rfl,zk⟩
 case round =>
  obtain⟨l,rfl⟩:=gn wr;obtain⟨h,am,rfl,F⟩:=hrel;have B:=qh F;have KB:=qh<|HB.o.of_block (F.block _ HB.o.lt);have KA:=qh<|HA.o.keep (F.block _ HA.o.lt);clear F
  have b2:l.cell? ⟨b,6,none⟩=some (.slice (some ⟨vb,0,none⟩) k K):=by rw[<- HF.o];exact KB.o.cell (i:=6) Zo
  by_cases D:h<k
  ·obtain⟨a0,a1,a2,-,aq⟩:=KA.o.cells D;have O1:=(HO.o h D).below B.o;have E:=(HL.o h D).below B.o;obtain⟨n,H⟩:=gn (N h);obtain⟨s,ha⟩:=gn (aj h);obtain⟨t,hc⟩:=gn (ak h);obtain⟨u,W⟩:=gn (LC h);obtain⟨gq,X⟩:=E.QF Zo;rw[<- W,X,<- H] at E a1;rw[<- ha,<- H,<- hc] at a0 O1
   have an:n<=100000000:=by rw[H];exact HN.o h D
   have LO:=qh O1;have LL:=qh E;obtain⟨ad,G⟩:=gn (l.alloc (.cells #[.slice s n t,.slice (some ⟨gq,0,none⟩) (n+40) u,.int .i64 ((i h:Int)+1)] 120))
   have ab:=World.rowIs_alloc l #[Value.slice s n t,Value.slice (some ⟨gq,0,none⟩) (n+40) u,Value.int IntKind.i64 ((i h:Int)+1)] 120 (hcell s n t (.slice (some ⟨gq,0,none⟩) (n+40) u) ((i h:Int)+1)) (λar hq=>by
     match ar,hq with
     | 0,_=>rfl
     | 1,_=>rfl
     | 2,_=>rfl)
   rw[<- G] at ab;have WB:=qh<|bq G (zk.alloc zj _);have C:=qh<|show ad.rowIs l.heap.size 120 3 (hcell s n t (.slice (some ⟨gq,0,none⟩) (n+40) u) ((i h:Int)+1)) from ab;have HW:=qh G;have ag:=IntWalk.i64_in ((n:Int)+40) Zo;have ec:((n+40:Nat):Int)=(n:Int)+40:=Zo;clear ha H hc W O1 E ab G X
   go_upto_region 5 with (fail)
   rw[<- HW.o];have h0:ad.cell? ⟨l.heap.size,0,none⟩=some (.slice s n t):=C.o.cell (i:=0) Zo;have h1:ad.cell? ⟨l.heap.size,1,none⟩=some (.slice (some ⟨gq,0,none⟩) (n+40) u):=C.o.cell (i:=1) Zo;have h2:ad.cell? ⟨l.heap.size,2,none⟩=some (.int .i64 ((i h:Int)+1)):=C.o.cell (i:=2) Zo;go_wp2_with fail
   have z:=qh<|af.o h D;have HE:=qh<|And.intro ag ec;clear h0 h1 h2;go_loopw [5] (λv wr=>∃ q:Nat,q<=n+40/\v=.int .i64 q/\Bl ad wr) (λv _=>n+40-(intOf v).toNat)
   case atStart=>exact⟨0,Zo,rfl,zk⟩
   case round =>
    obtain⟨q,ao,rfl,hm⟩:=hrel;have g:=qh hm;clear hm
    have o:=qh (λ(a:World) (c:Bl wr a)=>(show a.cell? ⟨l.heap.size,0,none⟩=some (.slice s n t)/\a.cell? ⟨l.heap.size,1,none⟩=some (.slice (some ⟨gq,0,none⟩) (n+40) u)/\a.cell? ⟨l.heap.size,2,none⟩=some (.int .i64 ((i h:Int)+1)) from by
     have ah:Bl ad a:=g.o.trans (c.mono g.o.size);have ab:=C.o.of_block (ah.block _ C.o.lt)
     exact⟨ab.cell (i:=0) Zo,ab.cell (i:=1) Zo,ab.cell (i:=2) Zo⟩))
    obtain⟨g0,g1,g2⟩:=o.o wr zk;by_cases ht:q<n+40
    ·have J:=qh<|show q<n+40 from ht;have I:=qh (λ(a:World) (c:Bl wr a)=>mark8 ((LL.o.below WB.o).below (g.o.trans (c.mono g.o.size))) ht);have x1:(q:Int)<(n:Int)+40:=Zo;by_cases Y:q<n
     ·obtain⟨au,rfl⟩:=LO.o.QF Zo;have A:=qh<|show q<n from Y;have ae:=qh (λ(a:World) (c:Bl wr a)=>mark8 ((LO.o.below WB.o).below (g.o.trans (c.mono g.o.size))) Y);have x2:(q:Int)<(n:Int):=Zo;go_wp2
      refine FS.Jd 26 [] (FS.JI [(7,FS.Sp.know (.bool true)),(23,FS.Sp.know (.bool true))])
       (λa=>Bl wr a) Zk Zk Zk
       (FS.Jb (FS.Sp.Jk _ _) (FS.Jb (FS.Sp.Jk _ _) (FS.Jh))) (λ_ _ r c=>r.trans (c.mono r.size)) (zk.drew) ?_
      simp only[zu,zi,ze,zx,zy,zv,zw]
      iterate 7
       refine FS.rdw (λa d=>by have hs:=o.o a d;have hx:=J.o;obtain⟨O,P,Q,R,S,T,U,V⟩:=I.o a d;go_simp;try rfl) ?_
      refine FS.Jc rfl rfl rfl (λa p=>?_) ?_
      ·have d:=p.world;refine FS.Jm (FS.PK (.bool true)) ?_ (λ_ _ r=>r.post);go_simp;have y:=jdm (i h) a z.o;refine y.mono ?_;rintro e aa ⟨rfl,c⟩;exact⟨_,rfl,rfl,c⟩
      rintro _ rfl
      conv=>arg 10;simp only[Act.put,zq0,zq1,zq2]
      iterate 2
       refine FS.rd0 ?_
      iterate 13
       refine FS.rdg (λa d=>by have hs:=o.o a d;have hx:=A.o;obtain⟨O,P,Q,R,S,T,U,V⟩:=ae.o a d;go_simp;try rfl) ?_
      refine FS.JJ (by rfl) rfl rfl (λa p=>?_) ?_
      ·have d:=p.world;refine FS.Jm (FS.PK (.bool true)) ?_ (λ_ _ r=>r.post);go_simp;have y:=jdm (i h) a z.o;refine y.mono ?_;rintro e aa ⟨rfl,c⟩;exact⟨_,rfl,rfl,c⟩
      rintro _ rfl
      conv=>arg 10;simp only[Act.put,zq0,zq1,zq2]
      iterate 2
       refine FS.rdz ?_
      refine FS.Jn (λac c hF=>?_);clear hF;have x:=qh c;clear c;have g:=qh<|g.o.trans (x.o.mono g.o.size);go_wp2;go_roundw
      case rel=>exact⟨q+1,Zo,by go_num,g.o⟩
      case measure=>simp[intOf];omega
     ·have A:=qh (show ¬(q:Int)<(n:Int) by omega);have x2:¬(q:Int)<(n:Int):=Zo;go_wp2
      refine FS.Jd 26 [] (FS.JI [(7,FS.Sp.know (.bool true))])
       (λa=>Bl wr a) Zk Zk Zk
       (FS.Jb (FS.Sp.Jk _ _) (FS.Jh)) (λ_ _ r c=>r.trans (c.mono r.size)) (zk.drew) ?_
      simp only[zu,zi,ze,zx,zy,zv,zw]
      iterate 7
       refine FS.rdw (λa d=>by have hs:=o.o a d;have hx:=J.o;obtain⟨O,P,Q,R,S,T,U,V⟩:=I.o a d;go_simp;try rfl) ?_
      refine FS.Jc rfl rfl rfl (λa p=>?_) ?_
      ·have d:=p.world;refine FS.Jm (FS.PK (.bool true)) ?_ (λ_ _ r=>r.post);go_simp;have y:=jdm (i h) a z.o;refine y.mono ?_;rintro e aa ⟨rfl,c⟩;exact⟨_,rfl,rfl,c⟩
      rintro _ rfl
      conv=>arg 10;simp only[Act.put,zq0,zq1,zq2]
      iterate 2
       refine FS.rd0 ?_
      iterate 6
       refine FS.rdg (λa d=>by have hs:=o.o a d;have hx:=A.o;go_simp;try rfl) ?_
      iterate 9
       refine FS.QZ (by rfl) rfl ?_
       conv=>arg 10;simp only[Act.put,zq0,zq1,zq2]
      refine FS.rdz ?_;refine FS.Jn (λac c hF=>?_);clear hF;have x:=qh c;clear c;have g:=qh<|g.o.trans (x.o.mono g.o.size);go_wp2;go_roundw
      case rel=>exact⟨q+1,Zo,by go_num,g.o⟩
      case measure=>simp[intOf];omega
    ·have x1:¬(q:Int)<(n:Int)+40:=Zo;obtain rfl:q=n+40:=Zo;go_wp2;go_roundw
     case rel=>exact⟨h+1,Zo,by go_num,by have r:=B.o.trans (WB.o.mono B.o.size);exact r.trans (g.o.mono r.size)⟩
     case measure=>simp[intOf];omega
  ·obtain rfl:h=k:=Zo;go_wp2;go_ret;exact⟨rfl,B.o⟩
end Book
namespace Limb
open Go.RowKit Go.Sort Go.FreshH
theorem top_any (a:Option Addr) (n u c:Nat) (o:Nat->Int) (q:World) (g:Rd q a n o) (h:Dig o n) (z:n<=200000000) (f:c<n) :
  Cl 257 #[.slice a n u,.int .i64 ((c:Int)+1)] q λe r=>e=.returned (.int .u64 (Uc o n c))/\r=q:=by
 obtain⟨b,off,rfl,d⟩:=g.cells Zo;have c1:=d c f;have v:=h c f;have A:=IntWalk.u64_in (o c) Zo;by_cases i:c+1<n
 ·have c2:=d (c+1) i;have d2:=h (c+1) i;have B:=IntWalk.u64_in (o (c+1)) Zo;have s:=IntWalk.u64_in (1000000000*o (c+1)) Zo;have C:=IntWalk.u64_in (1000000000*o (c+1)+o c) Zo;have j:=qh (show Uc o n c=1000000000*o (c+1)+o c by unfold Uc part;rw[if_pos i,if_pos f]);have l:(c:Int)+1<(n:Int):=Zo;have p:(c:Int)<(n:Int):=Zo;have k:(c:Int)+1-1=(c:Int):=Zo;have x:((c:Int)+1).toNat=c+1:=Zo;have t:=IntWalk.i64_in ((c:Int)+1-1) Zo;have y:0<=(c:Int)+1:=Zo;clear d g;go_enter func257,ntmps257;go_wp2;go_ret;exact⟨by rw[j.o];rfl,rfl⟩
 ·have s:=IntWalk.u64_in (0+o c) Zo;have j:=qh (show Uc o n c=o c by unfold Uc part;rw[if_neg i,if_pos f];omega);have l:¬(c:Int)+1<(n:Int):=Zo;have p:(c:Int)<(n:Int):=Zo;have k:(c:Int)+1-1=(c:Int):=Zo;have t:=IntWalk.i64_in ((c:Int)+1-1) Zo;clear d g;go_enter func257,ntmps257;go_wp2;go_ret;exact⟨by rw[j.o];rfl,rfl⟩
def Only (g:Nat) (w w':World):Prop:=(∀ k,k≠g->w'.heap[k]?=w.heap[k]?)/\w'.heap.size=w.heap.size
theorem Only.refl (b:Nat) (a:World):Only b a a:=⟨λ_ _=>rfl,rfl⟩
theorem Only.set {c:Nat} {w b:World} (d:Only c w b) (f:Nat) (v:Value):Only c w (b.setCell ⟨c,f,none⟩ v) :=
 ⟨λk a=>(Below.heap_setCell _ _ _ _ a).trans (d.1 k a),by rw[World.size_setCell];exact d.2⟩
theorem Rd.only {j:Nat} {p f:World} {a:Option Addr} {n:Nat} {o:Nat->Int} (k:Rd p a n o) (i:Only j p f) (hg:0<n->∀ l,a=some l->l.block≠j):Rd f a n o:=by
 refine⟨λd=>?_,k.rng⟩;obtain⟨b,off,c,g⟩:=k.cells d;exact⟨b,off,c,λq h=>(World.cell?_of_block (i.1 b (hg d _ c))).trans (g q h)⟩
theorem jix (o:Nat->Int) (a:Nat) (b v:Int):upd (upd o a b) a v=upd o a v:=by
 funext i;unfold upd
 split <;> rfl
theorem Vr (Z n H base d g cb m:Nat) (b:Option Addr) (D h:Nat->Int) (c:Int) (w:World) (hp:Own 128 w base (some ⟨Z,0,none⟩) n H D) (hb:Rd w b g h) (ac:0<g->∀ ay,b=some ay->ay.block≠Z)
  (dp:Dig D n) (db:Dig h g) (hn:n=d + m) (aw:n<=200000000) (hm:g<=m) (V:0<=c/\c<=999999999) :
  Cl 258 #[.slice (some ⟨Z,0,none⟩) n H,.slice b g cb,.int .i64 (d:Int),.int .u64 c] w λe w'=>e=.returned (.tuple #[]) /\
   Own 128 w' base (some ⟨Z,0,none⟩) n H (XO D h g d c m)/\Only Z w w'/\Below base w w':=by
 have HP:=qh hp;have HB:=qh hb;have DP:=qh dp;have DB:=qh db;have ah:=qh ac;have HN:=qh hn;have p:=qh (hp.blk rfl).2.1;clear hp hb dp db ac hn;go_enter func258,ntmps258;go_wp2;go_loopw [8,9] (λow X wr=>∃ k:Nat,k<=m/\X=.int .i64 k/\ow=.int .u64 (- cS (VF D h d g c) k)/\Own 128 wr base (some ⟨Z,0,none⟩) n H (XO D h g d c k)/\Only Z w wr/\Below base w wr) (λ_ X _=>m-(intOf X).toNat)
 case atStart=>exact⟨0,Zo,rfl,rfl,by rw[jgq];exact HP.o,Only.refl _ _,zk⟩
 case round =>
  obtain⟨k,hk,rfl,rfl,hO,ab,aa⟩:=hrel;have z:=qh hO;have q:=qh ab;have x:=qh aa;clear hO ab aa;have aj:=HN.o;have x0:=IntWalk.i64_in ((d:Int)+(k:Int)) Zo;by_cases av:k<m
  ·have o:d + k<n:=Zo;have ag:(d:Int)+(k:Int)<(n:Int):=Zo;have aq:((d:Int)+(k:Int)).toNat=d + k:=Zo;have ar:0<=(d:Int)+(k:Int):=Zo;obtain⟨u,W⟩:=gn (D (d + k))
   have ak:0<=u/\u<1000000000:=by rw[W];exact DP.o _ o
   have cx:wr.cell? ⟨Z,d + k,none⟩=some (.int .u32 u):=by
    have:=z.o.cell (i:=d + k) Zo;rw[this,jgr,W]
   have fx:=z.o.fz;obtain⟨Y,hD⟩:=gn (- cS (VF D h d g c) k);obtain⟨J,C⟩:=gn (part h g k)
   have r:∀ ao,0<=part h g ao/\part h g ao<=999999999:=by
    intro ao;unfold part;split
    ·have:=DB.o ao Zo;omega
    ·omega
   have I:0<=J/\J<=999999999:=by rw[C];exact r k
   have ax:0<=c*J/\c*J<=999999999*999999999:=⟨Int.mul_nonneg V.1 I.1,Int.mul_le_mul V.2 I.2 I.1 Zo⟩
   have ai:=cS_neg (f:=VF D h d g c) (lo:=-999999999) (n:=k) Zo (λX hi=>by
    have h1:=DP.o (d + X) Zo;have h2:=r X;have h3:c*part h g X<=999999999*999999999:=Int.mul_le_mul V.2 h2.2 h2.1 Zo;have h4:0<=c*part h g X:=Int.mul_nonneg V.1 h2.1;unfold VF
    omega)
   have au:0<=Y/\Y<=999999999:=Zo
   have eF:VF D h d g c k=u-c*J:=by rw[W,C];rfl
   have e1:cS (VF D h d g c) (k+1)=(u-(Y+c*J))/1000000000:=by rw[cS,eF];congr 1;omega
   have e2:cD (VF D h d g c) k=(u-(Y+c*J))%1000000000:=by unfold cD;rw[eF];congr 1;omega
   clear eF;obtain⟨E,B⟩:=gn (Y+c*J);have R:0<=E/\E<=999999999999999999:=Zo;rw[<- B] at e1 e2;obtain⟨s,t⟩:=jjl (a:=u) (n:=E) ak R.1;rw[<- e1,<- e2] at s t;have K:=qh<|jgs D h g d c k;have l:=qh<|QM (VF D h d g c) (k+1) k Zo;obtain⟨cd,P⟩:=gn (cD (VF D h d g c) k);obtain⟨c',O⟩:=gn (- cS (VF D h d g c) (k+1));rw[<- P,<- O] at s t;rw[<- P] at K l;clear P;obtain⟨tm,T⟩:=gn (E%1000000000);obtain⟨U,S⟩:=gn (E/1000000000);rw[<- T,<- S] at s t
   have r1:E.tmod 1000000000=tm:=by rw[Int.tmod_eq_emod_of_nonneg R.1,T]
   have r2:E.tdiv 1000000000=U:=by rw[Int.tdiv_eq_ediv_of_nonneg R.1,S]
   have aA:0<=tm/\tm<=999999999:=Zo;have az:0<=U/\U<=999999999:=Zo;have w1:=IntWalk.u64_in tm Zo;have w2:=IntWalk.u32_in tm Zo;have w3:=IntWalk.u64_in U Zo;have w4:=IntWalk.u32_in (u+1000000000) Zo;have w5:=IntWalk.u64_in (U+1) Zo;have G:=qh O;rw[<- hD];have HT:=qh<|And.intro B (And.intro C I);clear e1 e2 ai r hD T S O W;by_cases Q:k<g
   ·have af:(k:Int)<(g:Int):=Zo;obtain⟨bb,bo,rfl,ad⟩:=(HB.o.only q.o ah.o).cells Zo
    have cy:wr.cell? ⟨bb,bo+k,none⟩=some (.int .u32 J):=by
     rw[ad k Q,C];show some (Value.int .u32 (h k))=some (.int .u32 (part h g k));unfold part;rw[if_pos Q]
    have wy:=IntWalk.u64_in J Zo;have aB:=IntWalk.u64_in (c*J) Zo;have an:=IntWalk.u64_in (Y+c*J) Zo;rw[<- B] at an;have et:Y+c*J=E:=B.symm;clear ad C B;by_cases y:u<tm
    ·obtain⟨i,j⟩:=s y;have F:=IntWalk.u32_in (u+1000000000-tm) Zo;rw[i] at F;rw[j] at w5;have S1:=qh<|And.intro i j;have O1:=qh<|z.o.put (t:=d + k) (v:=u+1000000000) o Zo;have A:=qh<|O1.o.put (t:=d + k) (v:=cd) o (Zh l);have ae:=l.o;clear s t;go_wp2;go_roundw
     case rel=>exact⟨k+1,Zo,by go_num,by rw[G.o],by rw[<- K.o,<- jix _ _ (u+1000000000) cd];exact A.o,(q.o.set _ _).set _ _,(x.o.setCell p.o _).setCell p.o _⟩
     case measure=>simp[intOf];omega
    ·obtain⟨i,j⟩:=t y;have F:=IntWalk.u32_in (u-tm) Zo;rw[i] at F;have S1:=qh<|And.intro i j;have A:=qh<|z.o.put (t:=d + k) (v:=cd) o (Zh l);clear s t;go_wp2;go_roundw
     case rel=>exact⟨k+1,Zo,by go_num,by rw[G.o],by rw[<- K.o];exact A.o,q.o.set _ _,x.o.setCell p.o _⟩
     case measure=>simp[intOf];omega
   ·have af:¬(k:Int)<(g:Int):=Zo
    have am:J=0:=by rw[C];unfold part;rw[if_neg Q]
    have et:Y=E:=by rw[B,am,Int.mul_zero];omega
    subst et;clear C B;by_cases y:u<tm
    ·obtain⟨i,j⟩:=s y;have F:=IntWalk.u32_in (u+1000000000-tm) Zo;rw[i] at F;rw[j] at w5;have S1:=qh<|And.intro i j;have O1:=qh<|z.o.put (t:=d + k) (v:=u+1000000000) o Zo;have A:=qh<|O1.o.put (t:=d + k) (v:=cd) o (Zh l);have ae:=l.o;clear s t;go_wp2;go_roundw
     case rel=>exact⟨k+1,Zo,by go_num,by rw[G.o],by rw[<- K.o,<- jix _ _ (u+1000000000) cd];exact A.o,(q.o.set _ _).set _ _,(x.o.setCell p.o _).setCell p.o _⟩
     case measure=>simp[intOf];omega
    ·obtain⟨i,j⟩:=t y;have F:=IntWalk.u32_in (u-tm) Zo;rw[i] at F;have S1:=qh<|And.intro i j;have A:=qh<|z.o.put (t:=d + k) (v:=cd) o (Zh l);clear s t;go_wp2;go_roundw
     case rel=>exact⟨k+1,Zo,by go_num,by rw[G.o],by rw[<- K.o];exact A.o,q.o.set _ _,x.o.setCell p.o _⟩
     case measure=>simp[intOf];omega
  ·obtain rfl:k=m:=Zo;have ag:¬(d:Int)+(k:Int)<(n:Int):=Zo;clear aj;go_wp2_with fail
   go_end0;exact⟨rfl,z.o,q.o,x.o⟩
theorem Own.made (a:World) (n:Nat) (o:Nat->Int):Own 128 (a.alloc (.cells (madeCells #[Value.int .u32 0] n) 128)) a.heap.size (some ⟨a.heap.size,0,none⟩) 0 n o :=
 ⟨Nat.zero_le _,Or.inr ⟨_,_,rfl,zj,heap_alloc_new a _,by rw[size_madeCells];exact zj,λc b=>Zo⟩,λc b=>Zo⟩
theorem jj6 {r wr c:World} {base h k N:Nat} {o:Nat->Int} {a:Option Addr} {d:Nat} {p:Obj} {v:Int} (i:Below base r wr) (g:base<=wr.heap.size) (hg:base<=h)
  (j:Own 128 c base a (k+1) d (upd o k v)) (s:k+1<=N)
  (b:(a=some ⟨h,0,none⟩/\d=N/\(wr.alloc p).grownBy c (some h))\/((∃ f,a=some ⟨f,0,none⟩/\wr.heap.size+1<=f)/\(wr.alloc p).grownBy c none/\N<k+1)) :
  a=some ⟨h,0,none⟩/\d=N/\Below base r c:=by
 rcases b with ⟨rfl,rfl,q⟩ | ⟨_,_,q⟩
 ·exact⟨rfl,rfl,(i.alloc g p).grown q (by simp;omega) (λt l=>by cases l;exact hg)⟩
 ·omega
theorem ja3 (a:Option Addr) (n O:Nat) (o:Nat->Int) (c:World) (B:Rd c a n o) (hn:n<=100000000) :
  Cl 197 #[.slice a n O] c λe H=>∃ Y,e=.returned (.slice (some ⟨Y,0,none⟩) n (n+1))/\Own 128 H c.heap.size (some ⟨Y,0,none⟩) (n+1) (n+1) (tw o n)/\Bl c H:=by
 obtain⟨S,s,j,l,p⟩:=info_parts QQ;have e1:=IntWalk.i64_in ((n:Int)+1) Zo
 have C:∀ c:World,(Instr.makeSlice 28 (.int .i64 0) (.int .i64 ((n:Int)+1))).run prog c=.ok (.slice (some ⟨c.heap.size,0,none⟩) 0 (n+1)) (c.alloc (.cells (madeCells #[Value.int .u32 0] (n+1)) 128)):=by
  intro c;have Z:=run_make (P:=prog) c 28 128 S _ underlying28 s j .i64 .i64 0 ((n:Int)+1) Zo Zo (by rw[p];omega) Zo;rw[l,show((n:Int)+1).toNat=n+1 by omega,Nat.mul_one] at Z;exact Z
 have u:=qh B;clear B j l p s;go_enter func197,ntmps197;go_wp2;go_loopw [3,4] (λaa f wr=>∃ k:Nat,k<=n/\f=.int .i64 k/\aa=.slice (some ⟨c.heap.size,0,none⟩) k (n+1)/\(∃ U,(∀ t,t<k->U t=o t)/\Own 128 wr c.heap.size (some ⟨c.heap.size,0,none⟩) k (n+1) U)/\Bl c wr) (λ_ f _=>n-(intOf f).toNat)
 case atStart=>exact⟨0,Zo,rfl,rfl,⟨o,λ_ _=>rfl,Own.made c (n+1) o⟩,qg⟩
 case round =>
  obtain⟨k,hk,rfl,rfl,⟨U,D,A⟩,z⟩:=hrel;have y:=qh D;have x:=qh A;have HG:=qh z;clear D A z C;by_cases i:k<n
  ·obtain⟨J,T,rfl,h⟩:=(u.o.below HG.o).cells Zo;have c1:wr.cell? ⟨J,T+k,none⟩=some (.int .u32 (o k)):=h k i;have G:=u.o.rng k i;clear h
   go_wp2_with (first
    | (at_builtin;refine Book.Km rfl _ _ rfl (by rfl) (x.o.JD _) Zo (by have:=HG.o.size;simp;omega) (v:=o k) (by rfl) ?c1 G (by rfl) ?_))
   case c1=>simp
   intro I K X b d;obtain⟨rfl,rfl,g⟩:=jj6 (N:=n+1) HG.o HG.o.size zj b Zo (d.imp id λ⟨Q,R,h3⟩=>⟨Q,R,Zo⟩);have r:=qh b;have q:=qh g;clear b d g;go_wp2;go_roundw
   case rel =>
    refine⟨k+1,Zo,by go_num,rfl,⟨_,λt E=>?_,r.o⟩,q.o⟩;by_cases e:t=k
    ·subst e;exact upd_same _ _ _
    ·rw[upd_ne _ _ e];exact y.o t Zo
   case measure=>simp[intOf];omega
  ·obtain rfl:k=n:=Zo
   go_wp2_with (first
    | (at_builtin;refine Book.Km rfl _ _ rfl (by rfl) (x.o.JD _) Zo (by have:=HG.o.size;simp;omega) (v:=77) (by rfl) ?c1 Zo (by rfl) ?_))
   case c1=>simp
   intro I K X b V W F;subst V;subst W;have r:=qh b;have q:=qh<|(HG.o.alloc HG.o.size (.cells #[Value.int .u32 77] 128)).grown F (by have:=HG.o.size;simp;omega) (λt E=>by cases E;exact zj);have x1:(k:Int)<=(k:Int)+1:=Zo;clear b F;go_wp2;go_ret;refine⟨_,rfl,r.o.congr λf s=>?_,q.o⟩
   show _=if f<k then o f else 77
   by_cases e:f<k
   ·rw[if_pos e,upd_ne _ _ Zo];exact y.o f e
   ·rw[if_neg e,show f=k by omega];exact upd_same _ _ _
theorem VN (x:Bool) (a:Option Addr) (n i:Nat) (o:Nat->Int) (l:World) (D:Rd l a n o) (I:n<=100000000) :
  Cl 159 #[Jv x a n i] l λe b=>∃ j,e=.returned (Jv x (some ⟨j,0,none⟩) n (n+1))/\Own 128 b l.heap.size (some ⟨j,0,none⟩) (n+1) (n+1) (tw o n)/\Bl l b:=by
 have G:=qh D;have t:=((Bx.new l 30 (.bool x) (.slice a n i)).alloc (.cells #[.bool false,.slice none 0 0] 30));have g:=(Bx.Zu l (.cells #[.bool x,.slice a n i] 30) 30 (.bool false) (.slice none 0 0));clear D;go_enter func159,ntmps159
 go_upto_region 1 with (fail)
 obtain⟨C,u⟩:=gn ((l.alloc (.cells #[.bool x,.slice a n i] 30)).alloc (.cells #[.bool false,.slice none 0 0] 30));have h:=qh ((zk.alloc (by go_size) _ |>.alloc (by go_size) _):Bl l ((l.alloc (.cells #[.bool x,.slice a n i] 30)).alloc (.cells #[.bool false,.slice none 0 0] 30)));rw[<- u] at t g h;rw[<- u];have p:=qh t;have q:=qh g;clear u t g;have r:=qh (λ(b:World) (d:Bl C b)=>And.intro (p.o.bl d).c0 (p.o.bl d).c1);have B:=qh (λ(b:World) (d:Bl C b)=>ja3 a n i o b (G.o.below (h.o.trans (d.mono h.o.size))) I)
 refine Ji 6 (JI [(4,Sp.made (λj:Nat=>.slice (some ⟨j,0,none⟩) n (n+1)) (λj b=>Own 128 b C.heap.size (some ⟨j,0,none⟩) (n+1) (n+1) (tw o n)))])
  (λb=>Bl C b) Zk Zk
  (Jb (Sp.Jf λU l b v d=>v.below d) Jh) (λ_ _ v d=>v.trans (d.mono v.size)) (zk.drew) ?_
 simp only[zx,zy,zv,zw]
 iterate 4
  (refine Jy rfl rfl ?_ (λb c=>?_) ?_;rotate_left;· (have f:=Has.world c;(have T:=r.o _ f);clear c;go_simp;try rfl))
 (refine Jc rfl rfl (λb c=>?_) ?_;· (have f:=Has.world c;go_simp;((refine(B.o b f).mono ?_;rintro e S ⟨j,rfl,H,d⟩;exact⟨_,rfl,⟨⟨j,rfl⟩,⟨j,rfl,H.mono f.size⟩⟩,d⟩))))
 rintro _ ⟨j,rfl⟩
 (refine Jy rfl rfl ?_ (λb c=>?_) ?_;rotate_left;· (have f:=Has.world c;(skip);clear c;go_simp;try rfl))
 refine Jn (λJ k s=>?_)
 have A:Own 128 J C.heap.size (some ⟨j,0,none⟩) (n+1) (n+1) (tw o n):=by
  obtain⟨U,e,v⟩:=s 4
  cases e
  exact v
 have F:=qh A;have g:=q.o.bl k;have y:=qh g;obtain⟨K,O,P,Q⟩:=g.all;have z:=qh<|h.o.trans (k.mono h.o.size);have R:=q.o.lt;have E:=h.o.size;clear s A g k r B;go_wp2;refine bodyPost_ret (Je rfl _ _ _ _ _ _ _ rfl (y.o.set _ _) underlying30 rfl Zk) rfl ⟨j,rfl,?_,?_⟩
 ·exact((F.o.oz).oz).mono E
 ·exact(z.o.sc).sc
end Limb
end Go.Proofs.YthacfgmdihcffaaGreatDoor
namespace Go.FreshH
open Go.RowKit
variable {P:Program} {ops:Array Oper} {md:Region.Mode} {C:World->Prop}
end Go.FreshH
namespace Go.Proofs.YthacfgmdihcffaaGreatDoor
namespace Limb
open Go.RowKit Go.Sort Go.FreshH
structure Num1 where
 b:Nat
 s:Bool
 a:Option Addr
 n:Nat
 c:Nat
 o:Nat->Int
def Good (lo:Nat) (w:World) (x:Num1):Prop:=Bx w x.b 30 (.bool x.s) (.slice x.a x.n x.c)/\Own 128 w lo x.a x.n x.c x.o
def Asunder (x y:Num1):Prop:=∀ p q,x.a=some p->y.a=some q->p.block≠q.block
def All (lo:Nat) (w:World) (L:List Num1):Prop:=(∀ x∈L,Good lo w x)/\L.Pairwise Asunder
theorem All.nil (a:Nat) (c:World):All a c []:=⟨λd b=>(by cases b),List.Pairwise.nil⟩
end Limb
namespace Book
open Go.RowKit Go.Sort Go.FreshH Limb
structure BkB (w:World) (b vb k cap vt kt ct:Nat) (A:Nat->Option Addr) (N C:Nat->Nat) (O:Nat->Nat->Int) (ν:Nat->Nat) (At:Nat->Option Addr) (Nt Ct:Nat->Nat) (Ot:Nat->Nat->Value) (μ:Nat->Nat) (f:Nat->Value):Prop where
 hk:k<=30000
 hkt:kt<=30000
 hν:∀ j,j<k->ν j<=30000
 hμ:∀ j,j<kt->μ j<=30000
 hB:w.rowIs b 59 13 f
 f2:f 2=.slice (some ⟨vb,0,none⟩) k cap
 f6:f 6=.slice (some ⟨vt,0,none⟩) kt ct
 hz:∀ i,0<i->i<13->i≠2->i≠6->f i=.slice none 0 0
 hA:Yz ν w vb k A N C (λ_=>.slice none 0 0)
 hT:Yo μ w vt kt At Nt Ct (λ_=>.slice none 0 0)
 hO:∀ j,j<k->Own 128 w 0 (A j) (N j) (C j) (O j)
 hOt:∀ j,j<kt->Qe w 0 (At j) (Nt j) (Ct j) (Ot j)
 hN:∀ j,j<k->N j<=900000000
 hNt:∀ j,j<kt->Nt j<=100000000
 S:(¬UA k A b/\¬UA k A vb)/\¬UA k A vt
 St:(¬UA kt At b/\¬UA kt At vt)/\¬UA kt At vb
 hD:Part k A
 hDt:Part kt At
 DD:∀ g,UA k A g->¬UA kt At g
 ne:b≠vb/\b≠vt/\vb≠vt
theorem jg8 (b D k Q A y ct:Nat) (aa:Nat->Option Addr) (N C:Nat->Nat) (ay:Nat->Nat->Int) (ν:Nat->Nat) (B:Nat->Option Addr) (Nt Ct:Nat->Nat) (Ot:Nat->Nat->Value) (μ:Nat->Nat) (f:Nat->Value) (W:World) (r:BkB W b D k Q A y ct aa N C ay ν B Nt Ct Ot μ f) :
  Cl 20 #[.pointer (some ⟨b,0,none⟩)] W λe w'=>e=.returned (.bool true)/\Touch (λo=>(UA k aa o\/o=D)\/(UA y B o\/o=A)) W w':=by
 have a:=qh r;have J:=qh r.hz;have H0:=qh r.hB;have HP:=qh (show ∀ o,UA k aa o->o<W.heap.size from λo ⟨l,d,R,h,e⟩=>by rw[<- e];exact((r.hO l d).blk h).2.2);have an:=qh (show ∀ o,UA y B o->o<W.heap.size from λo ⟨l,d,R,h,e⟩=>by rw[<- e];exact((r.hOt l d).blk h).2.2);have aq:=qh<|show D<W.heap.size from r.hA.lt;have ad:=qh<|show A<W.heap.size from r.hT.lt;clear r;have N0:=qh (λi (s:0<i) (j:i<13) (t:i≠2) (u:i≠6)=>(show W.cell? ⟨b,i,none⟩=some (.slice none 0 0) by rw[H0.o.cell j,J.o i s j t u]));have aw:=qh<|jj1 b D k Q aa N C ay f ν W a.o.hk a.o.hν a.o.hB a.o.f2 a.o.hA a.o.hO (λl d=>by have:=a.o.hN l d;omega) a.o.S.1 a.o.hD;go_enter func20,ntmps20;go_wp2_with fail
 refine(je8 b W (N0.o 1 Zo Zo Zo Zo)).mono ?_;rintro e q ⟨⟨v,rfl⟩,c⟩;obtain rfl:=c.symm;go_wp2_with fail
 refine aw.o.mono ?_;rintro e X ⟨⟨v,rfl⟩,x,ae⟩;have T1:=qh x;have T:=qh ae;have H1:=qh<|H0.o.of_block (x.block _ H0.o.lt a.o.S.1.1);have ab:=qh<|a.o.hA.keep (x.block _ aq.o a.o.S.1.2);have V:=qh<|a.o.hT.keep (x.block _ ad.o a.o.S.2);have U:=qh (λl (d:l<y)=>(a.o.hOt l d).keep λR h=>x.block _ ((a.o.hOt l d).blk h).2.2 λg=>a.o.DD _ g ⟨l,d,R,h,rfl⟩);clear x ae N0 aw;have N1:=qh (λi (s:0<i) (j:i<13) (t:i≠2) (u:i≠6)=>(show X.cell? ⟨b,i,none⟩=some (.slice none 0 0) by rw[H1.o.cell j,J.o i s j t u]));have FT:=qh<|jb5 b A y ct B Nt Ct Ot f μ X a.o.hkt a.o.hμ H1.o a.o.f6 V.o U.o a.o.hNt a.o.St.1 a.o.hDt;go_wp2_with fail
 refine(jfb b X (N1.o 3 Zo Zo Zo Zo)).mono ?_;rintro e q ⟨⟨v,rfl⟩,c⟩;obtain rfl:=c.symm;go_wp2_with fail
 refine(jbi b X (N1.o 4 Zo Zo Zo Zo)).mono ?_;rintro e q ⟨⟨v,rfl⟩,c⟩;obtain rfl:=c.symm;go_wp2_with fail
 refine(jih b X (N1.o 5 Zo Zo Zo Zo)).mono ?_;rintro e q ⟨⟨v,rfl⟩,c⟩;obtain rfl:=c.symm;go_wp2_with fail
 refine FT.o.mono ?_;rintro e E ⟨⟨v,rfl⟩,x,af⟩;have T2:=qh<|(T1.o.mono λo hg=>Or.inl (Or.inl hg)).trans (x.mono λo hg=>(Or.inr (Or.inl hg):(UA k aa o\/o=D)\/(UA y B o\/o=A)));have I:=qh af;have H2:=qh<|H1.o.of_block (x.block _ H1.o.lt a.o.St.1.1);have ah:=qh<|ab.o.keep (x.block _ ab.o.lt a.o.St.2);have ac:=qh<|V.o.keep (x.block _ V.o.lt a.o.St.1.2);have ak:=qh (λl (d:l<k)=>(T.o l d).keep λR h=>x.block _ ((T.o l d).blk h).2.2 λg=>a.o.DD _ ⟨l,d,R,h,rfl⟩ g);clear x af N1 FT T U;have G:=qh (λi (s:0<i) (j:i<13) (t:i≠2) (u:i≠6)=>(show E.cell? ⟨b,i,none⟩=some (.slice none 0 0) by rw[H2.o.cell j,J.o i s j t u]));have ax:=qh<|jj2 b D k Q aa N C f ν E a.o.hk a.o.hν H2.o a.o.f2 ah.o ak.o a.o.hN a.o.S.1 a.o.hD a.o.ne.1;go_wp2_with fail
 refine(Ul b E (G.o 7 Zo Zo Zo Zo)).mono ?_;rintro e q ⟨⟨v,rfl⟩,c⟩;obtain rfl:=c.symm;go_wp2_with fail
 refine(jfe b E (G.o 8 Zo Zo Zo Zo)).mono ?_;rintro e q ⟨⟨v,rfl⟩,c⟩;obtain rfl:=c.symm;go_wp2_with fail
 refine(jfh b E (G.o 9 Zo Zo Zo Zo)).mono ?_;rintro e q ⟨⟨v,rfl⟩,c⟩;obtain rfl:=c.symm;go_wp2_with fail
 refine(jbl b E (G.o 10 Zo Zo Zo Zo)).mono ?_;rintro e q ⟨⟨v,rfl⟩,c⟩;obtain rfl:=c.symm;go_wp2_with fail
 refine(jbo b E (G.o 11 Zo Zo Zo Zo)).mono ?_;rintro e q ⟨⟨v,rfl⟩,c⟩;obtain rfl:=c.symm;go_wp2_with fail
 refine(jbr b E (G.o 12 Zo Zo Zo Zo)).mono ?_;rintro e q ⟨⟨v,rfl⟩,c⟩;obtain rfl:=c.symm;go_wp2_with fail
 refine(je9 b E (G.o 1 Zo Zo Zo Zo)).mono ?_;rintro e q ⟨⟨v,rfl⟩,c⟩;obtain rfl:=c.symm;go_wp2_with fail
 refine ax.o.mono ?_;rintro e Y ⟨⟨v,rfl⟩,LA,LC,p⟩;have HG:=qh p;have T3:=qh<|T2.o.trans (p.tch.mono λo hg=>(Or.inl hg:(UA k aa o\/o=D)\/(UA y B o\/o=A)));have H3:=qh<|H2.o.of_block (p.tch.block _ H2.o.lt (λr=>r.elim a.o.S.1.1 (λr=>a.o.ne.1 r)));have ao:=qh<|ac.o.keep (p.tch.block _ ac.o.lt (λr=>r.elim a.o.S.2 (λr=>a.o.ne.2.2 r.symm)));have ag:=qh (λl (d:l<y)=>(I.o l d).keep λR h=>p.tch.block _ ((I.o l d).blk h).2.2 λg=>g.elim (λg=>a.o.DD _ g ⟨l,d,R,h,rfl⟩) (λg=>a.o.St.2 ⟨l,d,R,h,g⟩));clear p G ax I;have N3:=qh (λi (s:0<i) (j:i<13) (t:i≠2) (u:i≠6)=>(show Y.cell? ⟨b,i,none⟩=some (.slice none 0 0) by rw[H3.o.cell j,J.o i s j t u]));have GT:=qh<|jb8 b A y ct B Nt Ct f μ Y a.o.hkt a.o.hμ H3.o a.o.f6 ao.o ag.o a.o.hNt a.o.St.1 a.o.hDt a.o.ne.2.1;go_wp2_with fail
 refine(jfc b Y (N3.o 3 Zo Zo Zo Zo)).mono ?_;rintro e q ⟨⟨v,rfl⟩,c⟩;obtain rfl:=c.symm;go_wp2_with fail
 refine(jbj b Y (N3.o 4 Zo Zo Zo Zo)).mono ?_;rintro e q ⟨⟨v,rfl⟩,c⟩;obtain rfl:=c.symm;go_wp2_with fail
 refine(jii b Y (N3.o 5 Zo Zo Zo Zo)).mono ?_;rintro e q ⟨⟨v,rfl⟩,c⟩;obtain rfl:=c.symm;go_wp2_with fail
 refine GT.o.mono ?_;rintro e F ⟨⟨v,rfl⟩,ar,au,p⟩;have O:=qh p;have T4:=qh<|T3.o.trans (p.tch.mono λo hg=>(Or.inr hg:(UA k aa o\/o=D)\/(UA y B o\/o=A)));have H4:=qh<|H3.o.of_block (p.tch.block _ H3.o.lt (λr=>r.elim a.o.St.1.1 (λr=>a.o.ne.2.1 r)));have ai:=qh<|HG.o.arr.keep (p.tch.block _ HG.o.arr.lt (λr=>r.elim a.o.St.2 (λr=>a.o.ne.2.2 r)));have am:=qh (λl (d:l<k)=>(HG.o.own l d).keep λR h=>p.tch.block _ ((HG.o.own l d).blk h).2.2 λg=>g.elim (λg=>a.o.DD _ ⟨l,d,R,h,rfl⟩ g) (λg=>a.o.S.2 ⟨l,d,R,h,g⟩))
 have aj:=qh (λl (d:l<k)=>(HG.o.lng l d).1.keep λR h=>p.tch.block _ ((HG.o.lng l d).1.blk h).2.2 λg=>by
  rcases(HG.o.lng l d).2 with r | ⟨o,r,az⟩
  ·rw[r] at h;exact g.elim (λg=>a.o.DD _ ⟨l,d,R,h,rfl⟩ g) (λg=>a.o.S.2 ⟨l,d,R,h,g⟩)
  ·rw[r] at h
   cases h
   have aA:=T2.o.size
   rcases g with g | g
   ·have h9:=an.o _ g;have av:o<W.heap.size:=h9;omega
   ·have h9:=ad.o;have av:o=A:=g
    omega)
 clear p N3 GT;have H:=qh (λi (s:0<i) (j:i<13) (t:i≠2) (u:i≠6)=>(show F.cell? ⟨b,i,none⟩=some (.slice none 0 0) by rw[H4.o.cell j,J.o i s j t u]));have L:=qh<|jj3 b D k Q aa LA N C LC f ν F a.o.hk a.o.hν H4.o a.o.f2 (ai.o.congr λl d=>by rw[if_pos d]) am.o aj.o a.o.hN;go_wp2_with fail
 refine(Um b F (H.o 7 Zo Zo Zo Zo)).mono ?_;rintro e q ⟨⟨v,rfl⟩,c⟩;obtain rfl:=c.symm;go_wp2_with fail
 refine(jff b F (H.o 8 Zo Zo Zo Zo)).mono ?_;rintro e q ⟨⟨v,rfl⟩,c⟩;obtain rfl:=c.symm;go_wp2_with fail
 refine(jfi b F (H.o 9 Zo Zo Zo Zo)).mono ?_;rintro e q ⟨⟨v,rfl⟩,c⟩;obtain rfl:=c.symm;go_wp2_with fail
 refine(jbm b F (H.o 10 Zo Zo Zo Zo)).mono ?_;rintro e q ⟨⟨v,rfl⟩,c⟩;obtain rfl:=c.symm;go_wp2_with fail
 refine(jbp b F (H.o 11 Zo Zo Zo Zo)).mono ?_;rintro e q ⟨⟨v,rfl⟩,c⟩;obtain rfl:=c.symm;go_wp2_with fail
 refine(jbs b F (H.o 12 Zo Zo Zo Zo)).mono ?_;rintro e q ⟨⟨v,rfl⟩,c⟩;obtain rfl:=c.symm;go_wp2_with fail
 refine(jfa b F (H.o 1 Zo Zo Zo Zo)).mono ?_;rintro e q ⟨rfl,c⟩;obtain rfl:=c.symm;go_wp2_with fail
 refine L.o.mono ?_;rintro e Z ⟨rfl,z⟩;have T5:=qh<|T4.o.trans (Touch.of_below z);have H5:=qh<|H4.o.of_block (z.block _ H4.o.lt);have LT:=qh<|jca b A y ct B ar Nt Ct au f μ Z a.o.hkt a.o.hμ H5.o a.o.f6 ((O.o.arr.keep (z.block _ O.o.arr.lt)).congr λl d=>by rw[if_pos d]) (λl d=>(O.o.own l d).below z) (λl d=>(O.o.lng l d).1.below z) a.o.hNt;clear z H L;have N5:=qh (λi (s:0<i) (j:i<13) (t:i≠2) (u:i≠6)=>(show Z.cell? ⟨b,i,none⟩=some (.slice none 0 0) by rw[H5.o.cell j,J.o i s j t u]));go_wp2_with fail
 refine(jfd b Z (N5.o 3 Zo Zo Zo Zo)).mono ?_;rintro e q ⟨rfl,c⟩;obtain rfl:=c.symm;go_wp2_with fail
 refine(jbk b Z (N5.o 4 Zo Zo Zo Zo)).mono ?_;rintro e q ⟨rfl,c⟩;obtain rfl:=c.symm;go_wp2_with fail
 refine(jij b Z (N5.o 5 Zo Zo Zo Zo)).mono ?_;rintro e q ⟨rfl,c⟩;obtain rfl:=c.symm;go_wp2_with fail
 refine LT.o.mono ?_;rintro e K ⟨rfl,z⟩;have T6:=qh<|T5.o.trans (Touch.of_below z);have H6:=qh<|H5.o.of_block (z.block _ H5.o.lt);clear z N5 LT;have S:=qh (λi (s:0<i) (j:i<13) (t:i≠2) (u:i≠6)=>(show K.cell? ⟨b,i,none⟩=some (.slice none 0 0) by rw[H6.o.cell j,J.o i s j t u]));go_wp2_with fail
 refine(Un b K (S.o 7 Zo Zo Zo Zo)).mono ?_;rintro e q ⟨rfl,c⟩;obtain rfl:=c.symm;go_wp2_with fail
 refine(jfg b K (S.o 8 Zo Zo Zo Zo)).mono ?_;rintro e q ⟨rfl,c⟩;obtain rfl:=c.symm;go_wp2_with fail
 refine(jfj b K (S.o 9 Zo Zo Zo Zo)).mono ?_;rintro e q ⟨rfl,c⟩;obtain rfl:=c.symm;go_wp2_with fail
 refine(jbn b K (S.o 10 Zo Zo Zo Zo)).mono ?_;rintro e q ⟨rfl,c⟩;obtain rfl:=c.symm;go_wp2_with fail
 refine(jbq b K (S.o 11 Zo Zo Zo Zo)).mono ?_;rintro e q ⟨rfl,c⟩;obtain rfl:=c.symm;go_wp2_with fail
 refine(jbt b K (S.o 12 Zo Zo Zo Zo)).mono ?_;rintro e q ⟨rfl,c⟩;obtain rfl:=c.symm;go_wp2;go_ret;exact⟨rfl,T6.o⟩
end Book
end Go.Proofs.YthacfgmdihcffaaGreatDoor
