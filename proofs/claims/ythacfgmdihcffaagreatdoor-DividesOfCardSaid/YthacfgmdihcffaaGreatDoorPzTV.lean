/-
  Dividing whatever may come in: the program's answer and the document's, side by side.
-/
import Derived.Test.YthacfgmdihcffaaGreatDoorPzTU
set_option linter.unusedSimpArgs false
set_option linter.unusedVariables false
set_option maxHeartbeats 16000000
set_option maxRecDepth 100000
open Go.Proofs.Tryz
namespace Go.Proofs.YthacfgmdihcffaaGreatDoor
namespace Book
open Go.RowKit Go.Sort Go.FreshH Limb Pol
variable {w w':World} {b base hi lo lo' q:Nat} {a:Option Addr}
abbrev PT:=PV × List TV
def Qp:List PT->Nat
 | []=>0
 | e :: r=>2*e.1.n+1+Qp r
def cntL:List PT->Nat
 | []=>0
 | e :: r=>2*e.1.n+cntL r
def Vh:List PT->Nat->List HL
 | [],_=>[]
 | e :: r,q=>J6 e.2 q++Vh r (q+(2*e.1.n+1))
def allM:List PT->Nat->List HL
 | [],_=>[]
 | e :: r,q=>⟨e.1.a,e.1.n,e.1.c,q+2*e.1.n⟩ :: allM r (q+(2*e.1.n+1))
theorem Yb:∀ (c:List PT) (e:PT),Qp (c++[e])=Qp c+(2*e.1.n+1)
 | [],e=>by show 2*e.1.n+1+0=0+_;omega
 | a :: r,e=>by show 2*a.1.n+1+Qp (r++[e])=2*a.1.n+1+Qp r+_;rw[Yb r e];omega
theorem jgh:∀ {l:List PT} {j:Nat} {e:PT},l[j]?=some e->Qp (l.take j)+(2*e.1.n+1)<=Qp l
 | [],j,e,h=>by simp at h
 | a :: r,0,e,h=>by
  obtain rfl:a=e:=by simpa using h
  show 0+(2*a.1.n+1)<=2*a.1.n+1+Qp r
  omega
 | a :: r,j+1,e,h=>by
  have:=jgh (l:=r) (j:=j) (e:=e) (by simpa using h);show 2*a.1.n+1+Qp (r.take j)+_<=2*a.1.n+1+Qp r;omega
theorem Ub:∀ c:List PT,Qp c=cntL c+c.length
 | []=>rfl
 | a :: r=>by show 2*a.1.n+1+Qp r=2*a.1.n+cntL r+(r.length+1);rw[Ub r];omega
theorem Vy:∀ (c:List PT) (e:PT) (q:Nat),Vh (c++[e]) q=Vh c q++J6 e.2 (q+Qp c)
 | [],e,q=>by show J6 e.2 q++[]=[]++J6 e.2 (q+0);rw[List.append_nil];rfl
 | a :: r,e,q=>by
  show J6 a.2 q++Vh (r++[e]) (q+(2*a.1.n+1))=J6 a.2 q++Vh r (q+(2*a.1.n+1))++J6 e.2 (q+(2*a.1.n+1+Qp r));rw[Vy r e,List.append_assoc,Nat.add_assoc]
theorem Vz:∀ (c:List PT) (e:PT) (q:Nat),allM (c++[e]) q=allM c q++[⟨e.1.a,e.1.n,e.1.c,q+Qp c+2*e.1.n⟩]
 | [],e,q=>by show[(⟨e.1.a,e.1.n,e.1.c,q+2*e.1.n⟩:HL)]=[⟨e.1.a,e.1.n,e.1.c,q+0+2*e.1.n⟩];rw[Nat.add_zero]
 | a :: r,e,q=>by
  show _ :: allM (r++[e]) (q+(2*a.1.n+1))=_ :: (allM r (q+(2*a.1.n+1))++[⟨e.1.a,e.1.n,e.1.c,q+(2*a.1.n+1+Qp r)+2*e.1.n⟩]);rw[Vz r e,Nat.add_assoc q (2*a.1.n+1)]
theorem ZZ:∀ (c:List PT) (q:Nat),(allM c q).length=c.length
 | [],_=>rfl
 | a :: r,q=>by show(allM r _).length+1=r.length+1;rw[ZZ r]
theorem KC:∀ (d:List PT) (q:Nat),(∀ e∈d,e.2.length=e.1.n)->(Vh d q).length=cntL d
 | [],_,_=>rfl
 | a :: r,q,h=>by
  show(J6 a.2 q++Vh r _).length=2*a.1.n+cntL r;rw[List.length_append,X4,h a (List.mem_cons_self ..),KC r _ λe c=>h e (List.mem_cons_of_mem _ c)]
theorem RS.QA {ps:List PV} (k:RS w a ps) (h:Qz base w w') (g:∀ d,a=some d->d.block<base):RS w' a ps:=by
 refine⟨λi=>?_⟩;obtain⟨b,off,c,f⟩:=k.ex i;exact⟨b,off,c,λj d hi=>(World.cell?_of_block (a:=⟨b,off+j,none⟩) (h.bel.block b (g _ c))).trans (f j d hi)⟩
theorem BkS.polys {F G:List HL} (M:BkS w b base q F G) (a:Option Addr) (n ae:Nat) (c:List PT) (T:RS w a (c.map Prod.fst)) (R:c.length=n) (s:∀ U,a=some U->U.block<base)
  (x:∀ e∈c,RT w e.1.a e.2/\e.2.length=e.1.n/\∀ U,e.1.a=some U->U.block<base) (t:F.length+Qp c<=29990) (S:q+Qp c<=59990) (Q:G.length+n<=30000) :
  Cl 19 #[.pointer (some ⟨b,0,none⟩),.slice a n ae] w (VW b base (q+Qp c) (F++Vh c q) (G++allM c q) w):=by
 have v:=qh M;have Z:=qh T;have D:=qh R;have V:=qh s;have J:=qh x;have X:=qh t;have Y:=qh S;have K:=qh Q;clear M T R s x t S Q;go_enter func19,ntmps19;go_wp2;go_loopw [4] (λab wr=>∃ d:Nat,d<=n/\ab=.int .i64 d/\BkS wr b base (q+Qp (c.take d)) (F++Vh (c.take d) q) (G++allM (c.take d) q)/\Qz base w wr) (λab _=>n-(intOf ab).toNat)
 case atStart=>exact⟨0,Nat.zero_le _,rfl,by simpa[Vh,allM,Qp] using v.o,Qz.refl _ _⟩
 case round =>
  obtain⟨d,P,rfl,u,B⟩:=hrel;have W:=qh P;have v:=qh u;have j:=qh B;clear P u B;by_cases i:d<n
  ·have l:=qh i;have ad:(d:Int)<(n:Int):=Zo;obtain⟨e,g⟩:∃ e,c[d]?=some e:=⟨_,List.getElem?_eq_getElem (by rw[D.o];exact i)⟩;obtain⟨aa,off,O,z⟩:=Z.o.ex (λe0=>by rw[List.map_eq_nil_iff.1 e0] at g;simp at g);have hcell:wr.cell? ⟨aa,off+d,none⟩=some e.1.v:=(World.cell?_of_block (a:=⟨aa,off+d,none⟩) (j.o.bel.block aa (V.o _ O))).trans (z d e.1 (by rw[List.getElem?_map,g];rfl));subst O;obtain⟨C,A,p⟩:=J.o e (List.mem_of_getElem? g);have HT:=qh g;have ek:IntKind.i64.wrap ((d:Int)+1)=(d:Int)+1:=IntWalk.i64_in _ (Zi l K)
   have N:(Vh (c.take d) q).length<=Qp (c.take d):=by
    rw[KC _ _ λe x=>(J.o e (List.mem_of_mem_take x)).2.1,Ub];omega
   have y:(allM (c.take d) q).length=d:=by rw[ZZ,List.length_take,D.o];omega
   obtain⟨⟨m,f,o⟩,h⟩:=e;have I:=qh<|show Qp (c.take d)+(2*f+1)<=Qp c from jgh g
   have H:=qh (show Cl 17 #[.pointer (some ⟨b,0,none⟩),.slice m f o] wr _ from v.o.poly ⟨m,f,o⟩ h (RT.QA C j.o p) A p
    (by show _+2*f<=_;rw[List.length_append];have:=I.o;have:=X.o;omega) (by show _+2*f<=_;have:=I.o;have:=Y.o;omega) (by rw[List.length_append,y];have:=K.o;omega))
   clear i g C A p N y z;go_wp2_with fail
   with_reducible refine H.o.mono ?_
   rintro e E ⟨⟨r,rfl⟩,u,t⟩
   have L:=qh (show BkS E b base (q+Qp (c.take (d+1))) (F++Vh (c.take (d+1)) q) (G++allM (c.take (d+1)) q) by
    rw[List.take_add_one,HT.o];show BkS E b base (q+Qp (c.take d++[(⟨m,f,o⟩,h)])) (F++Vh (c.take d++[(⟨m,f,o⟩,h)]) q) (G++allM (c.take d++[(⟨m,f,o⟩,h)]) q);rw[Yb,Vy,Vz,<- List.append_assoc,<- List.append_assoc];show BkS E b base (q+(Qp (c.take d)+(2*f+1))) _ _;rw[show q+(Qp (c.take d)+(2*f+1))=q+Qp (c.take d)+2*f+1 by omega]
    exact u)
   have j:=qh<|j.o.trans t;clear u t H hcell;go_wp2;go_roundw
   case rel=>exact⟨d+1,l.o,rfl,L.o,j.o⟩
   case measure=>simp[intOf];have:=l.o;omega
  ·have ac:¬((d:Int)<(n:Int)):=Zo;obtain rfl:d=n:=Zh W;have k:=qh<|show c.take d=c from List.take_of_length_le (by rw[D.o];exact zj);clear i;go_wp2_with fail
   (try simp only[Exit.inBlock,Exit.then])
   refine bodyPost_end (results_none rfl _ _ _) rfl ?_;exact⟨⟨_,rfl⟩,by rw[<- k.o];rw[k.o];have M:=v.o;rw[k.o] at M;exact M,j.o⟩
structure PS (w:World) (lo:Nat) (x:PV) (ts:List TV) (S:Nat->Prop):Prop where
 rt:RT w x.a ts
 len:ts.length=x.n
 hg:∀ q,q+2*x.n<=30000->HG w lo S (J6 ts q) [⟨x.a,x.n,x.c,q+2*x.n⟩]
theorem PS.mono {i:PV} {c:List TV} {h:Nat->Prop} (d:PS w lo i c h) (f:lo'<=lo):PS w lo' i c h:=⟨d.rt,d.len,λq g=>(d.hg q g).mono f⟩
theorem HG.sub {j T:Nat->Prop} {h i:List HL} (c:HG w lo j h i) (d:∀ b,j b->T b):HG w lo T h i:=⟨c.num,c.row,λl g k f=>d _ (c.at_ l g k f),c.nq,c.al,c.am⟩
abbrev PTS:=PT × (Nat->Prop)
theorem jia:∀ (c:List PTS) (q:Nat),(∀ e∈c,PS w lo e.1.1 e.1.2 e.2)->c.Pairwise (λe f=>∀ b,e.2 b->¬f.2 b)->q+Qp (c.map Prod.fst)<=30000->HG w lo (λb=>∃ e∈c,e.2 b) (Vh (c.map Prod.fst) q) (allM (c.map Prod.fst) q)
 | [],q,_,_,_=>HG.nil _ _ _
 | e :: r,q,h,hp,i=>by
  obtain⟨j,k⟩:=List.pairwise_cons.1 hp;have i:q+(2*e.1.1.n+1+Qp (r.map Prod.fst))<=30000:=i;have m:=jia r (q+(2*e.1.1.n+1)) (λf g=>h f (List.mem_cons_of_mem _ g)) k Zo
  exact((h e (List.mem_cons_self ..)).hg q Zo).app m (λb d=>⟨e,List.mem_cons_self ..,d⟩) (λb ⟨f,g,d⟩=>⟨f,List.mem_cons_of_mem _ g,d⟩) λb d ⟨f,g,l⟩=>j f g b d l
structure GQ (w:World) (a:Option Addr) (es:List PT) (q lo hi:Nat):Prop where
 rs:RS w a (es.map Prod.fst)
 far:∀ p,a=some p->p.block<hi
 rt:∀ e∈es,RT w e.1.a e.2/\e.2.length=e.1.n/\∀ p,e.1.a=some p->p.block<hi
 hg:HG w lo (Bw lo hi) (Vh es q) (allM es q)
 le:hi<=w.heap.size
 lh:lo<=hi
theorem GQ.below {f:List PT} (d:GQ w a f q lo hi) (c:Bl w w'):GQ w' a f q lo hi :=
 ⟨d.rs.below c,d.far,λe g=>⟨(d.rt e g).1.below c,(d.rt e g).2⟩,d.hg.keep λb h=>c.block b (Nat.lt_of_lt_of_le h.2 d.le),zm d.le c.size,d.lh⟩
theorem GQ.QA {i:List PT} (c:GQ w a i q lo hi) (d:Qz base w w') (g:hi<=base):GQ w' a i q lo hi :=
 ⟨RS.QA c.rs d λk h=>Nat.lt_of_lt_of_le (c.far k h) g,c.far,λe f=>⟨RT.QA (c.rt e f).1 d λk h=>Nat.lt_of_lt_of_le ((c.rt e f).2.2 k h) g,(c.rt e f).2⟩,c.hg.QA d λb j=>Nat.lt_of_lt_of_le j.2 g,zm c.le d.bel.size,c.lh⟩
theorem jay:∀ {f:List PT} {q:Nat} {e:PT},e∈f->∃ k,(⟨e.1.a,e.1.n,e.1.c,k⟩:HL)∈allM f q
 | [],_,_,c=>by cases c
 | a :: r,q,e,c=>by
  rcases List.mem_cons.1 c with rfl | c
  ·exact⟨_,List.mem_cons_self ..⟩
  ·obtain⟨k,d⟩:=jay (q:=q+(2*a.1.n+1)) c;exact⟨k,List.mem_cons_of_mem _ d⟩
theorem GQ.of {m:Nat} (c:List PTS) (u:RS w a (c.map λe=>e.1.1)) (g:∀ n,a=some n->n.block<hi) (o:∀ e∈c,PS w lo e.1.1 e.1.2 e.2) (h:c.Pairwise (λe f=>∀ b,e.2 b->¬f.2 b))
  (p:∀ e∈c,∀ b,e.2 b->lo<=b/\b<hi) (t:m+Qp (c.map Prod.fst)<=30000) (j:hi<=w.heap.size) (l:lo<=hi):GQ w a (c.map Prod.fst) m lo hi:=by
 have hg:=(jia c m o h t).sub (T:=Bw lo hi) λb ⟨e,d,r⟩=>p e d b r
 refine⟨by rw[List.map_map];exact u,g,λe d=>?_,hg,j,l⟩;obtain⟨f,i,rfl⟩:=List.mem_map.1 d;obtain⟨k,s⟩:=jay (q:=m) d;exact⟨(o f i).rt,(o f i).len,λn h=>(hg.at_ _ (List.mem_append_right _ s) n h).2⟩
theorem BG.polysP {x y:Nat} (l:BG w b base q lo hi x y) {n u:Nat} {c:List PT} {f:Nat} (g:GQ w a c q lo' f) (r:c.length=n) (m:hi<=lo') (h:f<=base) (z:q+Qp c<=29990) :
  Cl 19 #[.pointer (some ⟨b,0,none⟩),.slice a n u] w (BGs b base (q+Qp c) lo f (x+cntL c) (y+c.length) w):=by
 obtain⟨A,B,rfl,rfl,s,hg⟩:=l.ex;have p:=l.lq;have v:=Ub c
 refine(s.polys a n u c g.rs r (λt i=>Nat.lt_of_lt_of_le (g.far t i) h) (λe d=>⟨(g.rt e d).1,(g.rt e d).2.1,λt i=>Nat.lt_of_lt_of_le ((g.rt e d).2.2 t i) h⟩) Zo Zo Zo).mono λe w' o=>?_
 have k:=KC c q λe d=>(g.rt e d).2.1
 have j:=BG.step hg g.hg p l.h1 m g.lh h (q':=q+Qp c) (by rw[k,ZZ];omega) o;rw[k,ZZ] at j;exact j
end Book
namespace Pol
open Go.RowKit Go.Sort Limb
theorem jez (a b:Option Addr) (n ag ah:Nat) (l m:List PV) (s:World) (K:RS s a l) (c:RS s b m) (h:l.length=n) (i:m.length=n) (N:n<=1000000)
  (M:∀ (B:Nat) (T U:PV),l[B]?=some T->m[B]?=some U->∃ A,KP s T A/\KP s U A/\(∀ ai∈A,LQ ai.2 900000)/\A.length<=1000000) :
  Cl 14 #[.slice a n ag,.slice b n ah] s λe w'=>e=.returned (.bool true)/\Bl s w':=by
 have W:=qh K;have X:=qh c;have I:=qh h;have J:=qh i;have Z:=qh N;have Y:=qh M;clear K c h i N M;go_enter func14,ntmps14;go_wp2;go_loopw [5] (λB wr=>∃ j:Nat,j<=n/\B=.int .i64 j/\Bl s wr) (λB _=>n-(intOf B).toNat)
 case atStart=>exact⟨0,Nat.zero_le _,rfl,zk⟩
 case round =>
  obtain⟨j,L,rfl,o⟩:=hrel;have HJ:=qh L;have d:=qh o;clear L o;by_cases g:j<n
  ·have k:=qh g;have ae:(j:Int)<(n:Int):=Zo;obtain⟨⟨t,v,u⟩,h⟩:∃ T,l[j]?=some T:=⟨_,List.getElem?_eq_getElem (by rw[I.o];exact g)⟩;obtain⟨⟨x,z,y⟩,i⟩:∃ U,m[j]?=some U:=⟨_,List.getElem?_eq_getElem (by rw[J.o];exact g)⟩;obtain⟨A,P,Q,R,k4⟩:=Y.o j _ _ h i;obtain⟨ab,ao,rfl,p⟩:=(W.o.below d.o).ex (λe=>by rw[e] at h;simp at h);obtain⟨bb,bo,rfl,r⟩:=(X.o.below d.o).ex (λe=>by rw[e] at i;simp at i);have C:=qh<|show wr.cell? ⟨ab,ao+j,none⟩=some (.slice t v u) from p j _ h;have D:=qh<|show wr.cell? ⟨bb,bo+j,none⟩=some (.slice x z y) from r j _ i;have E:=qh<|P.below d.o;have F:=qh<|Q.below d.o;have G:=qh R;have H:=qh k4;have ek:IntKind.i64.wrap ((j:Int)+1)=(j:Int)+1:=IntWalk.i64_in _ (Zi k Z);have ac:=qh g;clear h i P Q R k4 p r
   go_upto_region 6 with (fail)
   refine FS.Jd 9 [] (FS.JI [(8,FS.Sp.know (.bool true))])
    (λw'=>Bl wr w') Zk Zk Zk
    (FS.Jb (FS.Sp.Jk _ _) (FS.Jh)) (λ_ _ S c=>S.trans (c.mono S.size)) (zk.drew) ?_
   simp only[zu,zi,ze,zx,zy,zv,zw]
   iterate 8
    refine FS.rdw (λw' f=>by have hs:=ZO C.o f;have hs:=ZO D.o f;go_simp;try rfl) ?_
   refine FS.Jc rfl rfl rfl (λw' O=>?_) ?_
   ·have f:=O.world;refine FS.Jm (FS.PK (.bool true)) ?_ (λ_ _ S=>S.post);go_simp;have V:=(show Cl 26 #[.slice t v u,.slice x z y] w' _ from jh6 ⟨t,v,u⟩ ⟨x,z,y⟩ A w' (E.o.below f) (F.o.below f) G.o H.o);refine V.mono ?_;rintro e af ⟨rfl,c⟩;exact⟨_,rfl,rfl,c⟩
   rintro _ rfl
   conv=>arg 10;simp only[Act.put,zq0,zq1,zq2]
   refine FS.Jn (λaa c hF=>?_);clear hF;have d:=qk d c;clear c;go_wp2;go_roundw
   case rel=>exact⟨j+1,k.o,rfl,d.o⟩
   case measure=>simp[intOf];have:=k.o;omega
  ·have ad:¬((j:Int)<(n:Int)):=Zo;clear g;go_wp2;go_ret;exact⟨rfl,d.o⟩
end Pol
namespace Book
open Go.RowKit Go.Sort Go.FreshH Limb Pol
variable {w w':World} {hi lo:Nat} {x:PV} {P:List Tm}
structure DPL (w:World) (lo:Nat) (x:PV) (P:List Tm) (L:List TE):Prop where
 row:OT w lo x.v (L.map Prod.fst)
 num:∀ e∈L,DF w lo e.1.c e.2
 ap:L.Pairwise (λe f=>FV.apart e.1.c f.1.c)
 val:L.map tm=P
theorem DPL.rows {r:List TE} (v:DPL w lo x P r) (l:∀ (b:Nat) (u:Array Value) (s:TypeId),w.heap[b]?=some (.cells u s (0,0))->Zx s=true->w'.heap[b]?=w.heap[b]?):DPL w' lo x P r:=by
 obtain⟨h,i,f,m⟩:=v;refine⟨⟨h.1,h.2.imp id ?_⟩,λe j=>(i e j).kept λb o=>?_,f,m⟩
 ·rintro⟨t,g,c,p,k,d,f⟩;exact⟨t,g,c,p,k,(l t _ _ d rfl).trans d,f⟩
 ·obtain⟨c,n⟩:=DF.blkc (i e j) o;exact l b _ _ n rfl
theorem DPL.ps {u:List TE} (B:DPL w lo x P u) (l:∀ y∈P,LQ y.2 900000) (D:P.length<=10000):PS w lo x (u.map Prod.fst) (Bw lo w.heap.size):=by
 obtain⟨d,j,k,f⟩:=B;obtain⟨s,c,t⟩:=x;obtain⟨z,A,e,C,p⟩:=OT.slice d;change Value.slice s c t=_ at e
 injection e with e1 e2 e3
 subst e1 e3
 have v:c=P.length:=by rw[<- f,List.length_map,e2,List.length_map]
 obtain⟨o,m⟩:=OT.ownT (n:=c) d zj;refine⟨p,e2.symm,λq i=>?_⟩;have i:q+2*c<=30000:=i
 have h:=jax (q:=q) (λy r=>by
  obtain⟨e,g,rfl⟩:=List.mem_map.1 r
  exact DF.town (j e g) (l (e.1.m,e.2) (by rw[<- f];exact List.mem_map.2 ⟨e,g,rfl⟩))) (List.pairwise_map.2 k) m Zo (by rw[<- e2];omega)
 rw[<- e2] at h;exact h
def Ud (w:World) (lo hi:Nat) (x:PV) (P:List Tm):Prop:=Canon P/\(∀ t∈P,t.1.Small)/\∃ (u:World) (L:List TE),u.heap.size=hi/\DPL u lo x P L/\∀ (b:Nat) (c:Array Value) (T:TypeId),u.heap[b]?=some (.cells c T (0,0))->Zx T=true->w.heap[b]?=u.heap[b]?
theorem Ud.new (c:DP w lo x P):Ud w lo w.heap.size x P:=by
 obtain⟨i,d,f,g,h⟩:=c.ex;exact⟨c.canon,c.small,w,i,rfl,⟨d,f,g,h⟩,λ_ _ _ _ _=>rfl⟩
theorem Ud.rows (o:Ud w lo hi x P) (m:∀ (b:Nat) (g:Array Value) (f:TypeId),w.heap[b]?=some (.cells g f (0,0))->Zx f=true->w'.heap[b]?=w.heap[b]?):Ud w' lo hi x P:=by
 obtain⟨l,i,p,n,j,k,h⟩:=o;exact⟨l,i,p,n,j,k,λb g f d c=>(m b g f ((h b g f d c).trans d) c).trans (h b g f d c)⟩
theorem Ud.below (f:Ud w lo hi x P) (d:Bl w w'):Ud w' lo hi x P:=f.rows λb _ _ c _=>d.block b (lt_of_block c)
theorem Ud.dp (m:Ud w lo hi x P):DP w lo x P:=by
 obtain⟨k,c,o,l,n,i,j⟩:=m;obtain⟨d,f,g,h⟩:=i.rows j;exact⟨⟨l,d,f,g,h⟩,k,c⟩
theorem Ud.ps (s:Ud w lo hi x P) (g:∀ v∈P,LQ v.2 900000) (h:P.length<=10000):∃ p,PS w lo x p (Bw lo hi):=by
 obtain⟨t,r,z,y,k,f,l⟩:=s;have j:=f.ps g h;have d:=(f.rows l).ps g h;refine⟨_,d.rt,d.len,λq i=>?_⟩;have o:=j.hg q i;have c:=d.hg q i;exact⟨c.num,c.row,λx n u m=>by rw[<- k];exact o.at_ x n u m,c.nq,c.al,c.am⟩
structure Sep (w:World) (lo:Nat) (zs:List (PV × List Tm)):Prop where
 ex:∃ A B:Nat->Nat,(∀ i z,zs[i]?=some z->lo<=A i/\A i<=B i/\B i<=w.heap.size/\Ud w (A i) (B i) z.1 z.2)/\∀ i j,i<zs.length->j<zs.length->i≠j->B i<=A j\/B j<=A i
theorem Sep.rows {c:List (PV × List Tm)} (s:Sep w lo c) (l:w.heap.size<=w'.heap.size) (k:∀ (b:Nat) (r:Array Value) (n:TypeId),w.heap[b]?=some (.cells r n (0,0))->Zx n=true->w'.heap[b]?=w.heap[b]?):Sep w' lo c:=by
 obtain⟨o,p,i,j⟩:=s.ex;refine⟨o,p,λt z m=>?_,j⟩;obtain⟨d,f,g,h⟩:=i t z m;exact⟨d,f,zm g l,h.rows k⟩
theorem Sep.below {d:List (PV × List Tm)} (g:Sep w lo d) (c:Bl w w'):Sep w' lo d:=g.rows c.size λb _ _ f _=>c.block b (lt_of_block f)
theorem Sep.set {i:List (PV × List Tm)} (G:Sep w lo i) (h:Bl w w') (r:lo<=w.heap.size) (l:Nat) (F:DP w' w.heap.size x P):Sep w' lo (i.set l (x,P)):=by
 obtain⟨H,I,C,D⟩:=(G.below h).ex;obtain⟨u,m,o,E⟩:=G.ex;clear C D;refine⟨λk=>if k=l then w.heap.size else u k,λk=>if k=l then w'.heap.size else m k,λk z g=>?_,λk t f j s=>?_⟩
 ·by_cases c:k=l
  ·subst c
   have p:k<i.length:=by have:=(List.getElem?_eq_some_iff.1 g).1;rwa [List.length_set] at this
   rw[List.getElem?_set_self p] at g
   cases g
   simp only[if_true];exact⟨r,h.size,zj,Ud.new F⟩
  ·rw[List.getElem?_set_ne (Ne.symm c)] at g;obtain⟨v,y,A,B⟩:=o k z g;simp only[if_neg c];exact⟨v,y,zm A h.size,B.below h⟩
 ·rw[List.length_set] at f j
  have n:∀ k,k<i.length->m k<=w.heap.size:=λk f=>(o k _ (List.getElem?_eq_getElem f)).2.2.1
  by_cases c:k=l
  ·by_cases d:t=l
   ·omega
   ·simp only[if_pos c,if_neg d];exact Or.inr (n t j)
  ·by_cases d:t=l
   ·simp only[if_pos d,if_neg c];exact Or.inl (n k f)
   ·simp only[if_neg c,if_neg d];exact E k t f j s
theorem Sep.down {c:Nat} {g:List (PV × List Tm)} (m:Sep w lo g) (i:c<=lo):Sep w c g:=by
 obtain⟨k,l,d,h⟩:=m.ex;exact⟨k,l,λj z f=>⟨zm i (d j z f).1,(d j z f).2⟩,h⟩
theorem Sep.start (d:World) (c:List (PV × List Tm)) (g:∀ z∈c,z=(⟨none,0,0⟩,[])):Sep d d.heap.size c:=by
 refine⟨λ_=>d.heap.size,λ_=>d.heap.size,λh z f=>?_,λ_ _ _ _ _=>Or.inl zj⟩;rw[g z (List.mem_of_getElem? f)];exact⟨zj,zj,zj,Ud.new (DP.none _ _)⟩
end Book
namespace Pol
open Go.RowKit Go.Sort Limb
variable {P:List Tm}
theorem SA.lq {i:World} {j:PV} {ok:Bool} {n k e g:Nat} (h:SA i j P ok n k e) (c:k<=g):∀ f∈P,LQ f.2 g:=λf d=>(h.b.lq zj f d).up c
theorem jja {o:World} {x:PV} {ok:Bool} {n k e:Nat} (s:SA o x P ok n k e) (u:k<=900000) :
  Cl 7 #[x.v] o λf w'=>∃ c:PV,f=.returned c.v/\c.n=x.n/\SA w' c P ok n k e/\Tw2 o w' o.heap.size c x/\Bl o w':=by
 have r:=s.le;have p:=s.b;have v:=s.lq u
 rcases s.h with ⟨d,m⟩ | ⟨d,m,t⟩
 ·exact(twin_k x P o m v r).mono λf w' ⟨c,g,h,i,j,l⟩=>⟨c,g,h,⟨Or.inl ⟨d,i⟩,p,Zo⟩,j,l⟩
 ·exact(twin_b x o m r).mono λf w' ⟨c,g,h,i,j,l⟩=>⟨c,g,h,⟨Or.inr ⟨d,i,t⟩,p,Zo⟩,j,l⟩
theorem check_sa {h:World} {i:PV} {ok:Bool} {n k e:Nat} (f:SA h i P ok n k e) (g:k<=900000) :
  Cl 83 #[i.v] h λd w'=>d=.returned (.bool ok)/\Bl h w':=by
 have j:=f.le
 rcases f.h with ⟨rfl,c⟩ | ⟨rfl,c,-⟩
 ·exact Kh c (f.lq g) Zo
 ·exact ji9 c Zo
theorem Yc {h:World} {i:PV} {ok:Bool} {n k e:Nat} (f:SA h i P ok n k e) (g:k<=900000) :
  Cl 91 #[i.v] h λd w'=>d=.returned (.bool ok)/\Bl h w':=by
 have j:=f.le
 rcases f.h with ⟨rfl,c⟩ | ⟨rfl,c,-⟩
 ·exact Y4 c (f.lq g) Zo
 ·exact jgb c Zo
end Pol
namespace Book
open Go.RowKit Go.Sort Go.FreshH Limb Pol
variable {w w':World} {a:Option Addr} {b base hi hi' l lo lo' m q:Nat}
structure GQ2 (w:World) (a:Option Addr) (es:List PT) (f:PT) (q lo hi:Nat):Prop where
 rs:RS w a (es.map Prod.fst)
 far:∀ p,a=some p->p.block<hi
 rt:∀ e∈es++[f],RT w e.1.a e.2/\e.2.length=e.1.n/\∀ p,e.1.a=some p->p.block<hi
 hg:HG w lo (Bw lo hi) (Vh (es++[f]) q) (allM (es++[f]) q)
 le:hi<=w.heap.size
 lh:lo<=hi
theorem GQ2.below {g:List PT} {f:PT} (d:GQ2 w a g f q lo hi) (c:Bl w w'):GQ2 w' a g f q lo hi :=
 ⟨d.rs.below c,d.far,λe h=>⟨(d.rt e h).1.below c,(d.rt e h).2⟩,d.hg.keep λb i=>c.block b (Nat.lt_of_lt_of_le i.2 d.le),zm d.le c.size,d.lh⟩
theorem GQ2.QA {j:List PT} {f:PT} (c:GQ2 w a j f q lo hi) (d:Qz base w w') (h:hi<=base):GQ2 w' a j f q lo hi :=
 ⟨RS.QA c.rs d λn i=>Nat.lt_of_lt_of_le (c.far n i) h,c.far,λe g=>⟨RT.QA (c.rt e g).1 d λn i=>Nat.lt_of_lt_of_le ((c.rt e g).2.2 n i) h,(c.rt e g).2⟩,c.hg.QA d λb k=>Nat.lt_of_lt_of_le k.2 h,zm c.le d.bel.size,c.lh⟩
structure BGm (w:World) (b base q lo hi l m:Nat) (es:List PT):Prop where
 ex:∃ L M,L.length=l/\M.length=m/\BkS w b base (q+Qp es) (L++Vh es q) (M++allM es q)/\HG w lo (Bw lo hi) L M
 lq:l+m=q
 h1:lo<=hi
 h2:hi<=base
theorem BG.polys2P (i:BG w b base q lo hi l m) {n u:Nat} {c:List PT} {f:PT} (j:GQ2 w a c f q lo' hi') (p:c.length=n) (k:hi'<=base) (B:q+Qp c<=29990) :
  Cl 19 #[.pointer (some ⟨b,0,none⟩),.slice a n u] w λe w'=>(∃ r,e=.returned r)/\BGm w' b base q lo hi l m c/\Qz base w w':=by
 obtain⟨y,z,rfl,rfl,s,hg⟩:=i.ex;have A:=i.lq;have v:=Ub c
 refine(s.polys a n u c j.rs p (λt h=>Nat.lt_of_lt_of_le (j.far t h) k) (λe g=>⟨(j.rt e (List.mem_append_left _ g)).1,(j.rt e (List.mem_append_left _ g)).2.1,λt h=>Nat.lt_of_lt_of_le ((j.rt e (List.mem_append_left _ g)).2.2 t h) k⟩) Zo Zo Zo).mono λe w' d=>?_
 exact⟨d.1,⟨⟨y,z,rfl,rfl,d.2.1,hg.QA d.2.2 λb o=>Nat.lt_of_lt_of_le o.2 i.h2⟩,i.lq,i.h1,i.h2⟩,d.2.2⟩
theorem BGm.poly2P {c:List PT} (s:BGm w b base q lo hi l m c) {x:PV} {d:List TV} (i:GQ2 w a c (x,d) q lo' hi') (t:hi<=lo') (j:hi'<=base) (C:q+Qp c+2*x.n<=29980) :
  Cl 17 #[.pointer (some ⟨b,0,none⟩),x.v] w (BGs b base (q+Qp c+2*x.n+1) lo hi' (l+(cntL c+2*x.n)) (m+(c.length+1)) w):=by
 obtain⟨E,F,rfl,rfl,y,hg⟩:=s.ex;have u:=s.lq;have z:=Ub c;have h:=i.rt (x,d) (List.mem_append_right _ (List.mem_singleton.2 rfl))
 have A:=KC c q λe g=>(i.rt e (List.mem_append_left _ g)).2.1
 have o:=KC (c++[(x,d)]) q λe g=>(i.rt e g).2.1
 have B:=ZZ c q;have f:=ZZ (c++[(x,d)]) q;have p:=Ub (c++[(x,d)]);have r:=Yb c (x,d);rw[List.length_append,List.length_singleton] at f p;change Qp (c++[(x,d)])=Qp c+(2*x.n+1) at r
 refine(y.poly x d h.1 h.2.1 (λD v=>Nat.lt_of_lt_of_le (h.2.2 D v) j) (by rw[List.length_append];omega) Zo (by rw[List.length_append];omega)).mono λe w' n=>?_
 rw[List.append_assoc,<- Vy c (x,d) q,List.append_assoc,<- Vz c (x,d) q] at n;have k:=BG.step hg i.hg u s.h1 t i.lh j (q':=q+Qp c+2*x.n+1) Zo n;rw[o,f,show cntL (c++[(x,d)])=cntL c+2*x.n by omega] at k;exact k
theorem GQ2.of {r:Nat} (c:List PTS) (f:PTS) (A:RS w a (c.map λe=>e.1.1)) (i:∀ s,a=some s->s.block<hi) (t:∀ e∈c++[f],PS w lo e.1.1 e.1.2 e.2) (j:(c++[f]).Pairwise (λe f=>∀ b,e.2 b->¬f.2 b))
  (u:∀ e∈c++[f],∀ b,e.2 b->lo<=b/\b<hi) (z:r+Qp ((c++[f]).map Prod.fst)<=30000) (o:hi<=w.heap.size) (p:lo<=hi):GQ2 w a (c.map Prod.fst) f.1 r lo hi:=by
 have hg:=(jia (c++[f]) r t j z).sub (T:=Bw lo hi) λb ⟨e,d,v⟩=>u e d b v
 have n:(c++[f]).map Prod.fst=c.map Prod.fst++[f.1]:=by rw[List.map_append];rfl
 rw[n] at hg;refine⟨by rw[List.map_map];exact A,i,λe d=>?_,hg,o,p⟩;have g:=d;rw[<- n] at g;obtain⟨B,h,rfl⟩:=List.mem_map.1 g;obtain⟨k,y⟩:=jay (q:=r) d;exact⟨(t B h).rt,(t B h).len,λs j=>(hg.at_ _ (List.mem_append_right _ y) s j).2⟩
end Book
namespace Pol
open Go.RowKit Go.Sort Limb Book
variable {es:List DvE} {w w':World} {lo:Nat} {x:PV} {P:List Tm}
def zsOf (es:List DvE):List (PV × List Tm):=es.map λe=>(e.1.z,e.2.2)
structure DPS (w:World) (lo:Nat) (x:PV) (P:List Tm) (es:List DvE):Prop where
 dp:DP w lo x P
 sep:Sep w lo ((x,P) :: zsOf es)
theorem DPS.k (c:DPS w lo x P es):KP w x P:=c.dp.k
theorem DPS.canon (c:DPS w lo x P es):Canon P:=c.dp.canon
theorem DPS.below (d:DPS w lo x P es) (c:Bl w w'):DPS w' lo x P es:=⟨d.dp.below c,d.sep.below c⟩
theorem DPS.rows (g:DPS w lo x P es) (d:w.heap.size<=w'.heap.size) (c:∀ (b:Nat) (h:Array Value) (f:TypeId),w.heap[b]?=some (.cells h f (0,0))->Zx f=true->w'.heap[b]?=w.heap[b]?):DPS w' lo x P es:=⟨g.dp.rows c,g.sep.rows d c⟩
theorem zs_set {c:Nat} (e:DvE):zsOf (es.set c e)=(zsOf es).set c (e.1.z,e.2.2):=by unfold zsOf;rw[List.map_set]
theorem DPS.setZ (g:DPS w lo x P es) (c:Bl w w') (d:lo<=w.heap.size) (h:Nat) (e:DvE) (f:DP w' w.heap.size e.1.z e.2.2):DPS w' lo x P (es.set h e) :=
 ⟨g.dp.below c,by rw[zs_set];exact g.sep.set c d (h+1) f⟩
theorem DPS.setR (i:DPS w lo x P es) (f:Bl w w') (c:lo<=w.heap.size) {h:PV} {g:List Tm} (d:DP w' w.heap.size h g):DPS w' lo h g es :=
 ⟨d.mono c,i.sep.set f c 0 d⟩
structure DivJ (w0:World) (va:Value) (ds:List Dv) (Inv:DS->Prop) (pv rv:Value) (wr:World) (s:DS):Prop where
 ex:∃ (p r:PV) (es:List DvE),pv=p.v/\rv=r.v/\PP w0 wr w0.heap.size p s.p/\DPS wr w0.heap.size r s.r es/\DVS w0 wr w0.heap.size va es/\es.map (λe=>e.2.1)=ds/\es.map (λe=>e.2.2)=s.os
 inv:Inv s
 bel:Bl w0 wr
def DivRS (w:World) (o:Int) (ds:List Dv) (Inv:DS->Prop) (e:Ending) (w':World):Prop :=
 (∃ (v:Value) (zs:List PV) (r:PV) (s:DS),e=.returned (.tuple #[v,r.v,.int .i64 0])/\OQ w' w.heap.size v zs/\zs.length=s.os.length/\Sep w' w.heap.size ((r,s.r) :: zs.zip s.os)/\Inv s/\s.p=[]/\Bl w w') \/
 ∃ (s:DS) (t:Tm) (i:Nat) (d:Dv),e=.returned (.tuple #[.slice none 0 0,.slice none 0 0,.int .i64 3])/\Inv s/\Zr (JN o) s.p t/\VX ds t.1 i d/\Ovf d.2 [byT t d.1]/\Bl w w'
theorem zip_zs:∀ es:List DvE,(es.map λe=>e.1.z).zip (es.map λe=>e.2.2)=zsOf es
 | []=>rfl
 | e :: r=>by
  show(e.1.z,e.2.2) :: (r.map λe=>e.1.z).zip (r.map λe=>e.2.2)=(e.1.z,e.2.2) :: zsOf r;rw[zip_zs r]
theorem divide_s (o:Int) (cI:PV) (P:List Tm) (a:Option Addr) (cc:Nat) (qs:List (PV × List Tm)) (F:List Dv) (Z:DS->Prop) (μ:DS->Nat) (k kd nd n:Nat) (C:World) (ho:o<=2) (hp:KP C cI P) (R:RS C a (qs.map Prod.fst)) (J:∀ q∈qs,KP C q.1 q.2)
  (bu:F.map Prod.snd=qs.map Prod.snd) (hP:DivP o F Z μ k kd nd n) (h0:Z ⟨P,[],List.replicate F.length []⟩) (hn:qs.length<=1000) :
  Cl 23 #[.int .u8 o,cI.v,.slice a qs.length cc] C (DivRS C o F Z):=by
 have hk:=hP.hk;have bS:=hP.hkk;have bV:=hP.hn;have bW:=hP.hnd
 have bt:∀ q∈qs,(∀ ao∈q.2,LQ ao.2 kd)/\q.2.length<=nd/\q.2≠[]:=λq aC=>by
  have L:q.2∈F.map Prod.snd:=by rw[bu];exact List.mem_map_of_mem aC
  obtain⟨aQ,M,e⟩:=List.mem_map.1 L;obtain⟨g1,g2,g3⟩:=hP.dl aQ M;rw[<- e];exact⟨g1,g2,λe=>by have:=g3.1;rw[e] at this;cases this⟩
 have bA:=hP.len _ h0;have aO:=hP.lq _ h0;have bO:=qh hp;have CK:=qh<|Kh hp (λao A=>(aO.1 ao A).up Zo) (by rw[hp.len];have:=bA.1;show P.length<=_;change P.length<=n at this;omega)
 have CN:=qh (λ(w1:World) (c:Bl C w1)=>con_l a cc (qs.map Prod.fst) qs.length w1 (R.below c) (by rw[List.length_map];exact hn) (by rw[List.length_map];exact zj)
  (λaF x hi hx w2 am=>by
   rw[List.getElem?_map] at hx;obtain⟨q,cE,rfl⟩:=Option.map_eq_some_iff.1 hx;have hm:=List.mem_of_getElem? cE;obtain⟨g1,g2,_⟩:=bt q hm;have aM:=((J q hm).below c).below am
   exact Kh aM (λao A=>(g1 ao A).up Zo) (by rw[aM.len];omega))
  (λx hx=>by
   have:=(List.getElem?_eq_some_iff.1 hx).1;rw[List.length_map] at this
   omega))
 have be:=qh (λ(w1:World) (c:Bl C w1)=>jet o a cc qs w1 (R.below c) hn λq hm=>by
  obtain⟨g1,g2,g3⟩:=bt q hm;have aM:=(J q hm).below c
  exact⟨aM,λao A=>(g1 ao A).up Zo,by rw[aM.len];omega,g3⟩)
 have aq:=qh hP;have ch:=qh bu;have ci:=qh h0;have HQ:=qh J;have a0:=qh hn;have X:=qh hk;have cj:=qh bS;have G:=qh bV;have aY:=qh bW;have cQ:¬(2<o):=Zo;obtain⟨nq,bb⟩:=gn qs.length;have aH:=qh bb;rw[<- bb];simp only[List.length_map,<- bb] at CN be;obtain⟨pa,D,pc⟩:=cI;change Cl 23 #[.int .u8 o,.slice pa D pc,.slice a nq cc] C _;clear hk bS bV bW bt bA aO hp R J bu hP h0 hn bb ho;go_enter func23,ntmps23;go_wp2_with fail
 go_step3;go_wp2_with fail
 with_reducible refine CK.o.mono ?_
 rintro e w1 ⟨rfl,c⟩;have g:=qh c;have C1:=qh<|CN.o w1 c;clear c CK CN;go_wp2_with fail
 with_reducible refine C1.o.mono ?_
 rintro e w2 ⟨rfl,c⟩;have g:=qk g c;have cB:¬(nq<nq):=Nat.lt_irrefl _;have D1:=qh<|be.o w2 g.o;clear c C1 be;go_wp2_with fail
 with_reducible refine D1.o.mono ?_
 rintro e w3 ⟨va,ay,rfl,v,aC,ba,c⟩;have aL:=qh g.o;have g:=qk g c
 have aS:DVS C w3 C.heap.size va ay:=⟨OD.mono v.row aL.o.size,λe j=>by
  have L:=v.ok e j
  have hm:(e.1.x,e.2.1.2)∈qs:=by rw[<- aC];exact List.mem_map_of_mem j
  exact⟨zm aL.o.size L.ge,L.bx,L.le.mono aL.o.size,HQ.o _ hm,L.of.mono aL.o.size⟩,v.ap⟩
 have an:ay.map (λe=>e.2.1)=F:=by
  refine ds_eq ?_ (λaQ M=>?_) (λaQ M=>(aq.o.dl aQ M).2.2) λaQ M=>?_
  ·rw[ch.o,<- aC,List.map_map,List.map_map];rfl
  ·obtain⟨e,j,rfl⟩:=List.mem_map.1 M;exact(ba e j).1
  ·obtain⟨e,j,rfl⟩:=List.mem_map.1 M;exact⟨(v.ok e j).all.canon,(v.ok e j).all.small⟩
 have bY:ay.map (λe=>e.2.2)=List.replicate F.length []:=by
  rw[<- an,List.length_map];refine List.eq_replicate_iff.2 ⟨List.length_map ..,λx hx=>?_⟩;obtain⟨e,j,rfl⟩:=List.mem_map.1 hx;exact(ba e j).2.1
 have bv:ay.length=nq:=by rw[<- List.length_map (f:=λe:DvE=>(e.1.x,e.2.1.2)),aC,aH.o]
 have d:=qh aS;have O:=qh an;have bM:=qh bY;obtain⟨aa,ca,b1,_⟩:=aS.row.slice;rw[List.length_map,bv] at b1;subst b1;have bJ:=qh (show F.length=nq by rw[<- an,List.length_map,bv])
 have co:=qh (show DPS w3 C.heap.size ⟨none,0,0⟩ [] ay from⟨DP.none _ _,(Sep.start w3 _ (λz hz=>by
  rcases List.mem_cons.1 hz with rfl | hz
  ·rfl
  ·obtain⟨e,j,rfl⟩:=List.mem_map.1 hz;obtain⟨-,L,h2⟩:=ba e j
   rw[L,h2])).down g.o.size⟩)
 have b4:=qh g.o;clear v aS aC ba c D1 an bY bv cB;go_wp2_with fail
 go_step3;go_wp2;go_loopw [1,6,7] (λpv qv rv wr=>qv=.slice none 0 0/\∃ N,DivJ C (.slice aa nq ca) F Z pv rv wr N) (λpv _ rv wr=>V9 (DivJ C (.slice aa nq ca) F Z pv rv wr) μ)
 case atStart=>exact⟨rfl,⟨P,[],List.replicate F.length []⟩,⟨⟨⟨pa,D,pc⟩,⟨none,0,0⟩,ay,rfl,rfl,Or.inl bO.o,co.o,d.o,O.o,bM.o⟩,ci.o,g.o⟩⟩
 case round =>
  clear d O bM bO g aL b4;obtain⟨rfl,hrel⟩:=hrel;obtain⟨N,hs,bU⟩:=jgd (μ:=μ) hrel;clear hrel;obtain⟨⟨cI,r,es,rfl,rfl,aB,R,v,an,bD⟩,aE,H⟩:=hs;have bK:=qh bU;have h:=qh aB;have p:=qh R;have d:=qh v;have O:=qh an;have av:=qh bD;have aX:=qh aE;have g:=qh H;have aO:=aq.o.lq N aE;have bT:=aq.o.len N aE;have ar:=qh aO;have Q:=qh bT;have b0:=(aB.k H).len;obtain⟨pa,D,pc⟩:=cI;obtain⟨ra,rn,rc⟩:=r;have aI:=qh<|show D=N.p.length from b0;have aW:=qh (show es.length=nq by rw[<- bJ.o,<- O.o,List.length_map])
  have bL:=qh (show ∀ q∈N.os,Canon q from λq J=>by
   rw[<- bD] at J;obtain⟨e,j,rfl⟩:=List.mem_map.1 J
   exact(v.ok e j).of.canon)
  clear bU aB R v an bD aE H aO bT b0;by_cases hz:N.p=[]
  ·have HZ:=qh hz
   have cC:¬((D:Int)>0):=by have bc:=aI.o;rw[hz] at bc;change D=0 at bc;omega
   have cK:¬((0:Int)<(D:Int)):=cC;obtain⟨i1,hi,cF,cG,cH⟩:=info_parts infoPq;clear hz;go_wp2;go_loopw [6,98] (λvq aF wq=>∃ (B:Nat) (row:List PV),B<=nq/\aF=.int .i64 B/\row=(es.map λe=>e.1.z).take B/\OQ wq C.heap.size vq row/\DVS C wq C.heap.size (.slice aa nq ca) es/\DPS wq C.heap.size ⟨ra,rn,rc⟩ N.r es/\Bl C wq) (λ_ aF _=>nq-(intOf aF).toNat)
   case atStart=>exact⟨0,[],Nat.zero_le _,rfl,rfl,World.ownsRow_nil _ _ _ _,d.o,p.o,g.o⟩
   case round =>
    clear g d p;obtain⟨B,row,hj,rfl,bG,bH,v,R,H⟩:=hrel;have bQ:=qh bG;have bR:=qh (show row.length=B by rw[bG,List.length_take,List.length_map,aW.o];omega);clear bG;have HJ:=qh hj;have aw:=qh bH;have d:=qh v;have p:=qh R;have g:=qh H;clear hj bH v R H;by_cases I:B<nq
    ·have W:=qh I;obtain⟨e,j⟩:∃ e,es[B]?=some e:=⟨_,List.getElem?_eq_getElem (by rw[aW.o];exact I)⟩;obtain⟨a2,c2,h2,hcell⟩:=d.o.row.slice;obtain⟨cx,hg,hc⟩:=hcell B e.1.b (by rw[List.getElem?_map,j];rfl)
     obtain rfl:aa=a2:=by injection h2
     subst hg;have i:=qh<|d.o.ok e (List.mem_of_getElem? j);have HE:=qh j;obtain⟨⟨b,yy,⟨xa,xn,xc⟩,⟨S,K,T⟩⟩,⟨⟨⟨t,u⟩,aG⟩,bo⟩⟩:=e;have cA:(B:Int)<(nq:Int):=Zo;have ek:IntKind.i64.wrap ((B:Int)+1)=(B:Int)+1:=IntWalk.i64_in _ (Zi a0 aH);have cP:wr.cell? ⟨b,9,none⟩=some (.slice S K T):=i.o.bx.ce 9;have cO:b<wr.heap.size:=i.o.bx.lt;have cN:=i.o.bx.fz;change wr.cell? ⟨cx,B,none⟩=some (.pointer (some ⟨b,0,none⟩)) at hc;clear j h2 hcell I;go_wp2_with (first | (at_builtin;refine wpList_append_own _ rfl _ _ 40 rfl C.heap.size 23 i1 _ 1 24 underlying40 hi cF cG cH rfl Ze _ _ _ rfl (aw.o.alloc _) ⟨wr.heap.size,0,none⟩ 1 1 [.slice S K T] rfl rfl (λB cT hj=>by match B,hj with | 0,hj=>simp at hj;subst hj;simp[Addr.add]) (λcT hu=>by rw[List.mem_singleton.1 hu];rfl) (by rw[bR.o];have:=W.o;have:=aH.o;have:=a0.o;unfold maxLen;omega) (by rw[bR.o];have:=W.o;have:=aH.o;have:=a0.o;omega) (by have:=g.o.size;simp;omega) ?_))
     intro v' w5 bE U _;have br:Bl wr (wr.alloc (.cells #[.slice S K T] 23)):=zk.alloc zj _;have bP:OQ (wr.alloc (.cells #[.slice S K T] 23)) C.heap.size _ row:=aw.o.alloc _;have aT:=bP.other U
     have b8:=qh (show OQ w5 C.heap.size v' (row++[⟨S,K,T⟩]) by
      show w5.ownsRow _ _ _ _ _ _;rw[List.length_append,List.map_append]
      exact bE)
     have b7:=qh (show row++[⟨S,K,T⟩]=(es.map λe=>e.1.z).take (B+1) by
      rw[List.take_add_one,List.getElem?_map,HE.o,bQ.o]
      rfl)
     have b3:=qh<|(d.o.below br).kept aT;have cp:=qh ((p.o.below br).rows U.size λb cc cR L h2=>aT b cc cR L (by rw[h2];rfl));have cv:=qh (show Bl C w5 from(g.o.alloc g.o.size _).grown U (by have:=g.o.size;simp;omega) λk hk=>(aw.o.own hk.symm).1);clear bE U br bP aT;go_wp2;go_roundw
     case rel=>exact⟨B+1,_,Zh W,rfl,b7.o,b8.o,b3.o,cp.o,cv.o⟩
     case measure=>simp[intOf];have:=W.o;omega
    ·have cy:¬((B:Int)<(nq:Int)):=Zo
     have aw:=qh (show OQ wr C.heap.size _ (es.map λe=>e.1.z) by
      have bc:=aw.o;rw[bQ.o] at bc
      rwa [List.take_of_length_le (by rw[List.length_map,aW.o];omega)] at bc)
     clear I;go_wp2_with fail
     try rw[Exit.noGoto_ret]
     go_ret3;refine Or.inl ⟨_,_,⟨ra,rn,rc⟩,N,rfl,aw.o,?_,?_,aX.o,HZ.o,g.o⟩
     ·rw[<- av.o,List.length_map,List.length_map]
     ·rw[<- av.o,zip_zs];exact p.o.sep
  ·have cb:(D:Int)>0:=by have bc:=aI.o;have:=List.length_pos_iff.2 hz;omega
   have cJ:(0:Int)<(D:Int):=cb;have LD:=qh<|jh7 o ⟨pa,D,pc⟩ N.p wr (h.o.k g.o).any (λao A=>(ar.o.1 ao A).up (Zh X)) (by have:=aI.o;have:=Q.o.1;have:=G.o;show D<=_;omega) hz;clear hz;go_wp2_with fail
   with_reducible refine LD.o.mono ?_
   rintro e w4 ⟨yy,⟨tm,s⟩,rfl,hy,aN,c⟩;have bj:=qh aN;have E:=qh<|hy.mono g.o.size;have h:=qh<|h.o.below c;have p:=qh<|p.o.below c;have d:=qh<|d.o.below c;have g:=qk g c;have aK:=qh<|show tm.Small from h.o.small _ aN.1;have a5:=qh<|show s≠0 from h.o.canon.non _ aN.1;have aJ:=qh<|show LQ s k from ar.o.1 _ aN.1;clear hy aN c LD
   go_upto_region 8 with (fail)
   obtain⟨cU,hV⟩:=gn (w4.alloc (.cells (cTv yy tm).toArray 37));have aA:=bq hV (zk.alloc zj _);have y:=qh<|al hV;obtain⟨cg,aR⟩:=gn w4.heap.size;rw[<- hV,<- aR];rw[<- aR] at y;have h:=qh<|h.o.below aA;have p:=qh<|p.o.below aA;have d:=qh<|d.o.below aA;have E:=qh<|E.o.below aA;have g:=qk g aA;clear hV aA aR;go_wp2;go_loopw [1,6,7,51] (λpv qv rv aF wi=>pv=.slice pa D pc/\qv=.slice none 0 0/\rv=.slice ra rn rc/\∃ B:Nat,B<=nq/\aF=.int .i64 B/\PP C wi C.heap.size ⟨pa,D,pc⟩ N.p/\DPS wi C.heap.size ⟨ra,rn,rc⟩ N.r es/\DVS C wi C.heap.size (.slice aa nq ca) es/\Bxs wi cg 37 (cTv yy tm)/\DF wi C.heap.size yy s/\(∀ (aF:Nat) (aQ:Dv),aF<B->F[aF]?=some aQ->¬aQ.1.1.stands tm)/\Bl C wi) (λ_ _ _ aF _=>nq-(intOf aF).toNat)
   case atStart=>exact⟨rfl,rfl,rfl,0,Nat.zero_le _,rfl,h.o,p.o,d.o,y.o,E.o,λaF aQ bc=>absurd bc (Nat.not_lt_zero _),g.o⟩
   case round =>
    clear h p d y E g;obtain⟨rfl,rfl,rfl,B,hj,rfl,aB,R,v,bs,hy,bX,H⟩:=hrel;have HJ:=qh hj;have h:=qh aB;have p:=qh R;have d:=qh v;have y:=qh bs;have E:=qh hy;have aZ:=qh bX;have g:=qh H;clear hj aB R v bs hy bX H;by_cases I:B<nq
    ·have W:=qh I;obtain⟨e,j⟩:∃ e,es[B]?=some e:=⟨_,List.getElem?_eq_getElem (by rw[aW.o];exact I)⟩;obtain⟨a2,c2,h2,hcell⟩:=d.o.row.slice;obtain⟨cx,hg,hc⟩:=hcell B e.1.b (by rw[List.getElem?_map,j];rfl)
     obtain rfl:aa=a2:=by injection h2
     subst hg;have i:=qh<|d.o.ok e (List.mem_of_getElem? j);have HE:=qh j;obtain⟨⟨b,dy,⟨xa,xn,xc⟩,⟨S,K,T⟩⟩,⟨⟨⟨t,u⟩,aG⟩,bo⟩⟩:=e;have aU:=qh (show F[B]?=some ((t,u),aG) by rw[<- O.o,List.getElem?_map,HE.o];rfl);have bN:=qh (show N.os[B]?=some bo by rw[<- av.o,List.getElem?_map,HE.o];rfl);obtain⟨g1,g2,g3⟩:=aq.o.dl _ (List.mem_of_getElem? aU.o);have bI:=qh (show ∀ ao∈aG,LQ ao.2 kd from g1);have bg:=qh<|show aG.length<=nd from g2;have cL:=qh<|show Zr (JN o) aG (t,u) from g3;have a6:=qh<|show KP C ⟨xa,xn,xc⟩ aG from i.o.all;have aV:=qh<|show u≠0 from a6.o.canon.non _ g3.1;have bi:=qh<|show t.Small from a6.o.small _ g3.1;have bh:=qh<|show LQ u kd from g1 _ g3.1;have cA:(B:Int)<(nq:Int):=Zo;have ek:IntKind.i64.wrap ((B:Int)+1)=(B:Int)+1:=IntWalk.i64_in _ (Zi a0 aH);have cM:=qh ek;change wr.cell? ⟨cx,B,none⟩=some (.pointer (some ⟨b,0,none⟩)) at hc;clear j h2 hcell I g1 g2 g3;by_cases aD:t.stands tm
     ·have a4:=qh aD;have IN:=qh<|into_y b dy u t ⟨xa,xn,xc⟩ ⟨S,K,T⟩ yy s tm wr i.o.bx aK.o bi.o aD i.o.le.k E.o.k (bh.o.up (Zh X)) (aJ.o.up (Zh X)) aV.o a5.o;clear aD;obtain⟨ab,ac,ad,ae,af,ag,ah,ai,aj,ak⟩:=y.o.d8;go_wp2_with fail
      with_reducible refine IN.o.mono ?_
      rintro e w5 ⟨⟨ua,un,uc⟩,j,hu,c⟩;obtain rfl:e=.returned (.tuple #[.slice ua un uc,.bool true]):=j;have HU:=qh<|hu.mono g.o.size;have h:=qh<|h.o.below c;have p:=qh<|p.o.below c;have d:=qh<|d.o.below c;have g:=qk g c;clear hu c IN hc ab ac ad ae af ag ah ai aj ak;have i:=qh<|d.o.ok _ (List.mem_of_getElem? HE.o);have bB:LQ (byT (tm,s) (t,u)).2 (k+kd):=lq_by aV.o aJ.o bh.o;have bk:=qh bB;have cs:=qh<|show(byT (tm,s) (t,u)).2≠0 from jec a5.o aV.o
      have MU:=qh (mul_oB ⟨xa,xn,xc⟩ ⟨ua,un,uc⟩ aG [byT (tm,s) (t,u)] kd (k+kd) w5 (a6.o.below g.o) HU.o.k bI.o (λao A=>by rw[List.mem_singleton.1 A];exact bk.o)
       (by rw[List.length_singleton];have:=X.o;omega) (by rw[List.length_singleton,Nat.mul_one];have:=bg.o;have:=aY.o;omega) (Zi bg aY) (by rw[List.length_singleton];decide))
      have c8:w5.cell? ⟨b,8,none⟩=some (.slice xa xn xc):=i.o.bx.ce 8;have cf:=i.o.bx.fz;have cl:=i.o.bx.lt;clear bB;go_wp2_with fail
      with_reducible refine MU.o.mono ?_
      rintro e w6 (⟨⟨oa,on,oc⟩,j,b9,bC,c⟩ | ⟨rfl,bZ,c⟩)
      ·obtain rfl:e=.returned (.tuple #[.slice oa on oc,.int .i64 0]):=j;have Y:=qh<|bC.mono g.o.size;have h:=qh<|h.o.below c;have p:=qh<|p.o.below c;have d:=qh<|d.o.below c;have HU:=qh<|HU.o.below c;have g:=qk g c;clear b9 bC c MU c8 cf cl;have i:=qh<|d.o.ok _ (List.mem_of_getElem? HE.o);have bn:=qh<|show(∀ ao∈bo,LQ ao.2 k)/\bo.length<=n from⟨ar.o.2.2 bo (List.mem_of_getElem? bN.o),Q.o.2.2 bo (List.mem_of_getElem? bN.o)⟩
       have AD:=qh (Y8 ⟨S,K,T⟩ ⟨ua,un,uc⟩ bo [byT (tm,s) (t,u)] (k+kd) w6 i.o.of.k.any HU.o.k.any (show K<=1000000 by have bc:K=bo.length:=i.o.of.k.len;have:=bn.o.2;have:=G.o;omega) (show un<=1000000 by have bc:un=1:=HU.o.k.len;omega) (λao A=>(bn.o.1 ao A).up Zo) (λao A=>by rw[List.mem_singleton.1 A];exact bk.o)
        (Zh X) (by rw[List.length_singleton];have:=bn.o.2;have:=G.o;omega))
       have c9:w6.cell? ⟨b,9,none⟩=some (.slice S K T):=i.o.bx.ce 9;have cf:=i.o.bx.fz;have cl:=i.o.bx.lt;go_wp2_with fail
       with_reducible refine AD.o.mono ?_
       rintro e w7 ⟨⟨qa,qn,qc⟩,j,J,c⟩;obtain rfl:e=.returned (.slice qa qn qc):=j;have cn:=qh<|J.mono g.o.size;have h:=qh<|h.o.below c;have p:=qh<|p.o.setZ c g.o.size B (⟨b,dy,⟨xa,xn,xc⟩,⟨qa,qn,qc⟩⟩,((t,u),aG),Qv bo [byT (tm,s) (t,u)]) J;have d:=qh<|d.o.below c;have Y:=qh<|Y.o.below c;have g:=qk g c;clear J c AD c9 cf cl;have i:=qh<|d.o.ok _ (List.mem_of_getElem? HE.o);have c9:w7.cell? ⟨b,9,none⟩=some (.slice S K T):=i.o.bx.ce 9;have cf:=i.o.bx.fz;have cl:=i.o.bx.lt
       go_upto_region 17 with (fail)
       clear c9 cf cl;obtain⟨cw,hU⟩:=gn (w7.setCell ⟨b,9,none⟩ (.slice qa qn qc));have V:=jge i.o.bx 9 (.slice qa qn qc);have h:=qh (show PP C cw C.heap.size ⟨pa,D,pc⟩ N.p by rw[hU];exact h.o.rows V);have p:=qh (show DPS cw C.heap.size ⟨ra,rn,rc⟩ N.r (es.set B (⟨b,dy,⟨xa,xn,xc⟩,⟨qa,qn,qc⟩⟩,((t,u),aG),Qv bo [byT (tm,s) (t,u)])) by rw[hU];exact p.o.rows (by rw[World.size_setCell];exact zj) V);have Y:=qh (show DP cw C.heap.size ⟨oa,on,oc⟩ (Ql aG [byT (tm,s) (t,u)]) by rw[hU];exact Y.o.rows V);have d:=qh (show DVS C cw C.heap.size (.slice (some ⟨cx,0,none⟩) nq ca) (es.set B (⟨b,dy,⟨xa,xn,xc⟩,⟨qa,qn,qc⟩⟩,((t,u),aG),Qv bo [byT (tm,s) (t,u)])) by rw[hU];exact d.o.store HE.o cn.o);have g:=qh<|bq hU (g.o.setCell i.o.ge _);rw[<- hU];clear hU V;have bF:=off_pb (nd:=nd) a6.o.canon cs.o bI.o bg.o bk.o Y.o.small
       have SB:=qh (jf7 ⟨pa,D,pc⟩ ⟨oa,on,oc⟩ N.p (Ql aG [byT (tm,s) (t,u)]) (k+2*kd+1) nd cw (h.o.k g.o).any Y.o.k.any (by have:=aI.o;have:=Q.o.1;have:=G.o;show D<=_;omega) (show on<=1000000 by have bc:on=(Ql aG [byT (tm,s) (t,u)]).length:=Y.o.k.len;have:=bF.len;have:=aY.o;omega)
        (λao A=>(ar.o.1 ao A).up Zo) (bF.up zj Zo zj) (zm X.o Ze) cj.o (by have:=Q.o.1;have:=G.o;have:=aY.o;omega))
       clear bF;go_wp2_with fail
       with_reducible refine SB.o.mono ?_
       rintro e w8 ⟨⟨na,nn,nc⟩,j,aP,c⟩;obtain rfl:e=.returned (.slice na nn nc):=j;have au:=qh<|aP.mono g.o.size;have p:=qh<|p.o.below c;have d:=qh<|d.o.below c;have g:=qk g c;clear aP c SB;have ax:=qh<|aq.o.step N (hitS N (tm,s) B ((t,u),aG)) aX.o h.o.canon p.o.canon bL.o au.o.small (Step.hit bj.o ⟨aU.o,a4.o,aZ.o⟩)
       have bm:=qh (show DivJ C (.slice (some ⟨cx,0,none⟩) nq ca) F Z (.slice na nn nc) (.slice ra rn rc) w8 (hitS N (tm,s) B ((t,u),aG)) from
        ⟨⟨⟨na,nn,nc⟩,⟨ra,rn,rc⟩,_,rfl,rfl,Or.inr au.o,p.o,d.o,(by refine(jc5 (λe:DvE=>e.2.1) HE.o ?_).trans O.o;rfl),(by refine(jeu (λe:DvE=>e.2.2) (λq=>Qv q [byT (tm,s) (t,u)]) HE.o ?_).trans ?_;all_goals first | (rw[av.o];rfl) | rfl)⟩,ax.o.1,g.o⟩)
       go_wp2;go_roundw
       case rel=>exact⟨rfl,_,bm.o⟩
       case measure=>exact Nat.lt_of_le_of_lt (least_le (μ:=μ) bm.o) (bK.o▸ax.o.2)
      ·have g:=qk g c;have cm:=qh bZ;clear bZ c MU c8 cf cl;go_wp2_with fail
       try rw[Exit.noGoto_ret]
       go_ret3;exact Or.inr ⟨N,(tm,s),B,((t,u),aG),rfl,aX.o,bj.o,⟨aU.o,a4.o,aZ.o⟩,cm.o,g.o⟩
     ·have a4:=qh aD;have IN:=qh<|into_n b dy u t ⟨xa,xn,xc⟩ ⟨S,K,T⟩ yy s tm wr i.o.bx aK.o bi.o aD i.o.le.k E.o.k (bh.o.up (Zh X)) (aJ.o.up (Zh X)) aV.o;clear aD;obtain⟨ab,ac,ad,ae,af,ag,ah,ai,aj,ak⟩:=y.o.d8;go_wp2_with fail
      with_reducible refine IN.o.mono ?_
      rintro e w5 ⟨rfl,c⟩;have h:=qh<|h.o.below c;have p:=qh<|p.o.below c;have d:=qh<|d.o.below c;have y:=qh<|y.o.bl c;have E:=qh<|E.o.below c;have g:=qk g c;clear c IN hc ab ac ad ae af ag ah ai aj ak;go_wp2;go_roundw
      case rel =>
       refine⟨rfl,rfl,rfl,B+1,Zh W,rfl,h.o,p.o,d.o,y.o,E.o,λaF aQ hi M=>?_,g.o⟩;by_cases cz:aF<B
       ·exact aZ.o aF aQ cz M
       ·obtain rfl:aF=B:=Zo;rw[aU.o] at M;obtain rfl:((t,u),aG)=aQ:=Option.some.inj M;exact a4.o
      case measure=>simp[intOf];have:=W.o;omega
    ·have cy:¬((B:Int)<(nq:Int)):=Zo
     have ck:=qh (show ∀ aQ∈F,¬aQ.1.1.stands tm from λaQ M=>by
      obtain⟨aF,hi⟩:=List.mem_iff_getElem?.1 M
      exact aZ.o aF aQ (by have L:=(List.getElem?_eq_some_iff.1 hi).1;have:=bJ.o;omega) hi)
     clear I;obtain⟨V1,a8⟩:=gn (wr.alloc (.cells (cTv yy tm).toArray 37));have az:=bq a8 (zk.alloc zj _);have cq:=qh (show DP V1 C.heap.size ⟨some ⟨wr.heap.size,0,none⟩,1,1⟩ [(tm,s)] by rw[a8];exact jcr E.o g.o.size aK.o a5.o);have a3:=qh<|p.o.below az
     have AD:=qh (Y8 ⟨ra,rn,rc⟩ ⟨some ⟨wr.heap.size,0,none⟩,1,1⟩ N.r [(tm,s)] k V1 a3.o.k.any cq.o.k.any (show rn<=1000000 by have bc:rn=N.r.length:=a3.o.k.len;have:=Q.o.2.1;have:=G.o;omega) (by show 1<=1000000;decide) ar.o.2.1 (λao A=>by rw[List.mem_singleton.1 A];exact aJ.o)
      (Zh X) (by rw[List.length_singleton];have:=Q.o.2.1;have:=G.o;omega))
     have ct:=qh a8;have h:=qh<|h.o.below az;have d:=qh<|d.o.below az;have E:=qh<|E.o.below az;have bf:=qh az;clear a8 az;obtain⟨ab,ac,ad,ae,af,ag,ah,ai,aj,ak⟩:=y.o.d8;go_wp2_with fail
     rw[<- ct.o];with_reducible refine AD.o.mono ?_
     rintro e w5 ⟨⟨qa,qn,qc⟩,j,J,c⟩;obtain rfl:e=.returned (.slice qa qn qc):=j;have y:=qh<|(y.o.below bf.o y.o.lt).below c (Nat.lt_of_lt_of_le y.o.lt bf.o.size);have g:=qh<|g.o.trans (bf.o.mono g.o.size);have a1:=qh<|a3.o.setR c g.o.size J;have h:=qh<|h.o.below c;have d:=qh<|d.o.below c;have E:=qh<|E.o.below c;have g:=qk g c;clear J c AD ab ac ad ae af ag ah ai aj ak;obtain⟨V2,a9⟩:=gn (w5.alloc (.cells (cTv yy tm).toArray 37));have am:=bq a9 (zk.alloc zj _);have cr:=qh (show DP V2 C.heap.size ⟨some ⟨w5.heap.size,0,none⟩,1,1⟩ [(tm,s)] by rw[a9];exact jcr E.o g.o.size aK.o a5.o);have a7:=qh<|g.o.trans (am.mono g.o.size);have b6:=qh<|h.o.below am;have b2:=qh<|d.o.below am;have b5:=qh<|a1.o.below am
     have SB:=qh (jf7 ⟨pa,D,pc⟩ ⟨some ⟨w5.heap.size,0,none⟩,1,1⟩ N.p [(tm,s)] k 1 V2 (b6.o.k a7.o).any cr.o.k.any (by have:=aI.o;have:=Q.o.1;have:=G.o;show D<=_;omega) (by show 1<=1000000;decide)
      ar.o.1 ⟨zj,λao A=>by rw[List.mem_singleton.1 A];exact aJ.o,λao A=>by rw[List.mem_singleton.1 A];exact aK.o⟩ (Zh X) (Zh X) (by have:=Q.o.1;have:=G.o;omega))
     have cu:=qh a9;clear a9 am;obtain⟨ab,ac,ad,ae,af,ag,ah,ai,aj,ak⟩:=y.o.d8;go_wp2_with fail
     rw[<- cu.o];with_reducible refine SB.o.mono ?_
     rintro e w8 ⟨⟨na,nn,nc⟩,j,aP,c⟩;obtain rfl:e=.returned (.slice na nn nc):=j;have au:=qh<|aP.mono a7.o.size;have a1:=qh<|b5.o.below c;have d:=qh<|b2.o.below c;have g:=qh<|a7.o.trans (c.mono a7.o.size);clear aP c SB ab ac ad ae af ag ah ai aj ak;have ax:=qh<|aq.o.step N (VY N (tm,s)) aX.o h.o.canon a3.o.canon bL.o au.o.small (Step.rest bj.o ck.o);go_wp2;go_roundw
     case rel =>
      exact⟨rfl,VY N (tm,s),⟨⟨⟨na,nn,nc⟩,⟨qa,qn,qc⟩,es,rfl,rfl,Or.inr au.o,a1.o,d.o,O.o,av.o⟩,ax.o.1,g.o⟩⟩
     case measure =>
      have L:=least_le (μ:=μ) (show DivJ C (.slice aa nq ca) F Z _ _ _ (VY N (tm,s)) from⟨⟨⟨na,nn,nc⟩,⟨qa,qn,qc⟩,es,rfl,rfl,Or.inr au.o,a1.o,d.o,O.o,av.o⟩,ax.o.1,g.o⟩);have h2:=bK.o;have h3:=ax.o.2;exact Nat.lt_of_le_of_lt L (h2▸h3)
end Pol
namespace Pol
open Go.RowKit Go.Sort Limb
variable {W w w':World} {x y:PV} {e hi k lo:Nat} {P:List Tm} {ok:Bool} {a:Option Addr}
theorem je0 (o:Int) (aa:PV) (a:Option Addr) (n ac:Nat) (v:List PV) (F:Bool) (f:Nat->Bool) (t:World) (T:RS t a v) (Q:v.length=n) (R:n<=1000000)
  (S:∀ W,Bl t W->Cl 91 #[aa.v] W λe w'=>e=.returned (.bool F)/\Bl W w')
  (d:∀ (h:Nat) (x:PV),v[h]?=some x->∀ W,Bl t W->Cl 91 #[x.v] W λe w'=>e=.returned (.bool (f h))/\Bl W w')
  (i:2<o\/F=false\/∃ h,h<n/\f h=false) :
  Cl 25 #[.int .u8 o,aa.v,.slice a n ac] t λe w'=>e=.returned (.tuple #[.slice none 0 0,.slice none 0 0,.int .i64 1])/\Bl t w':=by
 have HR:=qh T;have M:=qh Q;have Z:=qh R;have HX:=qh d;have Y:=qh i;obtain⟨U,X,V⟩:=aa;have J:=qh<|show Cl 91 #[.slice U X V] t _ from S t zk;clear T Q R S d i;change Cl 25 #[.int .u8 o,.slice U X V,.slice a n ac] t _;go_enter func25,ntmps25;by_cases u:2<o
 ·have C:o>2:=u;have c:=qh<|Below.refl t.heap.size t;go_wp2;go_ret3;exact⟨rfl,c.o⟩
 have C:¬(o>2):=u;have HO:=qh u;go_wp2_with fail
 with_reducible refine J.o.mono ?_
 rintro e w1 ⟨rfl,p⟩;have c:=qh p;clear p J C
 rcases F with _ | _
 ·go_wp2;go_ret3;exact⟨rfl,c.o⟩
 have K:=qh (show ∃ h,h<n/\f h=false by
  rcases Y.o with i | i | i
  ·have:=HO.o;omega
  ·cases i
  ·exact i)
 clear u;go_wp2;go_loopw [9] (λh wr=>∃ g:Nat,h=.int .i64 g/\g<=n/\(∀ k,k<g->f k=true)/\Bl t wr) (λh _=>n-(intOf h).toNat)
 case atStart=>exact⟨0,rfl,Nat.zero_le _,λk i=>absurd i (Nat.not_lt_zero _),c.o⟩
 case round =>
  clear c;obtain⟨g,rfl,O,D,A⟩:=hrel;have HJ:=qh O;have z:=qh D;have c:=qh A;clear O D A;by_cases s:g<n
  ·have j:=qh s;have ad:(g:Int)<(n:Int):=Zo;obtain⟨⟨G,I,H⟩,d⟩:∃ x,v[g]?=some x:=⟨_,List.getElem?_eq_getElem (by rw[M.o];exact s)⟩;obtain⟨ab,ao,rfl,B⟩:=(HR.o.below c.o).ex (λe=>by rw[e] at d;simp at d);have N:wr.cell? ⟨ab,ao+g,none⟩=some (.slice G I H):=B g _ d;have ek:IntKind.i64.wrap ((g:Int)+1)=(g:Int)+1:=IntWalk.i64_in _ (Zi j Z);have E:=qh<|show Cl 91 #[.slice G I H] wr _ from HX.o g ⟨G,I,H⟩ d wr c.o;obtain⟨fj,r⟩:=gn (f g);have L:=qh r;rw[<- r] at E;clear s d B r;go_wp2_with fail
   with_reducible refine E.o.mono ?_
   rintro e w2 ⟨rfl,p⟩;have c:=qk c p;clear p E N
   rcases fj with _ | _
   ·go_wp2;go_ret3;exact⟨rfl,c.o⟩
   ·go_wp2;go_roundw
    case rel=>exact⟨g+1,rfl,j.o,λk i=>by
     by_cases hk:k<g
     ·exact z.o k hk
     ·obtain rfl:k=g:=Zo
      exact L.o.symm,c.o⟩
    case measure=>simp[intOf];have:=j.o;omega
  ·exfalso;obtain⟨h,hi,i⟩:=K.o;rw[z.o h Zo] at i
   cases i
theorem je1 (o:Int) (aE:PV) (a:Option Addr) (n aG:Nat) (D:List PV) (ai:Nat->Bool) (G:World) (ho:o<=2) (hr:RS G a D) (hl:D.length=n) (hn:n<=1000000)
  (hp:∀ W,Bl G W->Cl 91 #[aE.v] W λe w'=>e=.returned (.bool true)/\Bl W w')
  (d:∀ (p:Nat) (x:PV),D[p]?=some x->∀ W,Bl G W->Cl 91 #[x.v] W λe w'=>e=.returned (.bool true)/\Bl W w')
  (I:∀ (p:Nat) (x:PV),D[p]?=some x->ai p=true->∀ W,Bl G W->Cl 9 #[.int .u8 o,x.v] W λe w'=>∃ (y:FV) (m:Mo) (q:Rat),e=.returned (.tuple #[TV.v ⟨y,m⟩,.bool true])/\EF w' W.heap.size y q/\Bl W w')
  (hN:∀ (p:Nat) (x:PV),D[p]?=some x->ai p=false->∀ W,Bl G W->Cl 9 #[.int .u8 o,x.v] W λe w'=>e=.returned (.tuple #[.agg #[.bool false,.slice none 0 0,.bool false,.slice none 0 0,.int .u16 0,.int .u16 0,.int .u16 0,.int .u16 0],.bool false])/\Bl W w')
  (S:∃ p,p<n/\ai p=false) :
  Cl 25 #[.int .u8 o,aE.v,.slice a n aG] G λe w'=>e=.returned (.tuple #[.slice none 0 0,.slice none 0 0,.int .i64 6])/\Bl G w':=by
 have HR:=qh hr;have R:=qh hl;have X:=qh hn;have HX:=qh d;have ag:=qh I;have ah:=qh hN;have ad:=qh S;obtain⟨pa,pn,pc⟩:=aE;have CK:=qh<|show Cl 91 #[.slice pa pn pc] G _ from hp G zk;have am:¬(o>2):=Zo;have an:¬(2<o):=Zo;clear hr hl hn hp d I hN S ho;change Cl 25 #[.int .u8 o,.slice pa pn pc,.slice a n aG] G _;go_enter func25,ntmps25;go_wp2_with fail
 with_reducible refine CK.o.mono ?_
 rintro e w1 ⟨rfl,i⟩;have c:=qh i;clear i CK;go_wp2_with fail
 clear am an;go_loopw [9] (λp wr=>∃ f:Nat,p=.int .i64 f/\f<=n/\Bl G wr) (λp _=>n-(intOf p).toNat)
 case atStart=>exact⟨0,rfl,Nat.zero_le _,c.o⟩
 case round =>
  clear c;obtain⟨f,rfl,K,B⟩:=hrel;have HJ:=qh K;have c:=qh B;clear K B;by_cases g:f<n
  ·have h:=qh g;have ak:(f:Int)<(n:Int):=Zo;obtain⟨⟨r,u,s⟩,d⟩:∃ x,D[f]?=some x:=⟨_,List.getElem?_eq_getElem (by rw[R.o];exact g)⟩;obtain⟨Z,ao,rfl,j⟩:=(HR.o.below c.o).ex (λe=>by rw[e] at d;simp at d);have F:wr.cell? ⟨Z,ao+f,none⟩=some (.slice r u s):=j f _ d;have ek:IntKind.i64.wrap ((f:Int)+1)=(f:Int)+1:=IntWalk.i64_in _ (Zi h X);have H:=qh<|show Cl 91 #[.slice r u s] wr _ from HX.o f ⟨r,u,s⟩ d wr c.o;clear g d j;go_wp2_with fail
   with_reducible refine H.o.mono ?_
   rintro e L ⟨rfl,i⟩;have c:=qk c i;clear i H F;go_wp2;go_roundw
   case rel=>exact⟨f+1,rfl,h.o,c.o⟩
   case measure=>simp[intOf];have:=h.o;omega
  ·have aj:¬((f:Int)<(n:Int)):=Zo;clear g;go_wp2;go_loopw [10,11] (λv p wr=>∃ (f:Nat) (z:PV) (av:List TE),f<=n/\v=z.v/\p=.int .i64 f/\ER wr G.heap.size z.v av/\av.length=f/\(∀ k,k<f->ai k=true)/\Bl G wr) (λ_ p _=>n-(intOf p).toNat)
   case atStart=>exact⟨0,⟨none,0,0⟩,[],Nat.zero_le _,rfl,rfl,ER.nil,rfl,λk S=>absurd S (Nat.not_lt_zero _),c.o⟩
   case round =>
    clear c HJ aj;obtain⟨f,⟨la,ln,lc⟩,av,K,hv,rfl,U,I,V,B⟩:=hrel;obtain rfl:_=Value.slice la ln lc:=hv;have HJ:=qh K;have A:=qh U;have O:=qh I;have Q:=qh V;have c:=qh B;clear K U I V B;by_cases g:f<n
    ·have h:=qh g;have ak:(f:Int)<(n:Int):=Zo;obtain⟨⟨r,u,s⟩,d⟩:∃ x,D[f]?=some x:=⟨_,List.getElem?_eq_getElem (by rw[R.o];exact g)⟩;obtain⟨Z,ao,rfl,j⟩:=(HR.o.below c.o).ex (λe=>by rw[e] at d;simp at d);have F:wr.cell? ⟨Z,ao+f,none⟩=some (.slice r u s):=j f _ d;have ae:=qh<|show IntKind.i64.wrap ((f:Int)+1)=(f:Int)+1 from IntWalk.i64_in _ (Zi h X)
     cases hgj:ai f with
     | false =>
      have H:=qh<|show Cl 9 #[.int .u8 o,.slice r u s] wr _ from ah.o f ⟨r,u,s⟩ d hgj wr c.o;clear g d j hgj;go_wp2_with fail
      with_reducible refine H.o.mono ?_
      rintro e L ⟨rfl,i⟩;have c:=qk c i;clear i H F
      go_upto_region 13 with (fail)
      have c:=qh<|c.o.alloc c.o.size (.cells zTv.toArray 37);go_wp2;go_ret3
      exact⟨rfl,c.o⟩
     | true =>
      have af:=qh hgj;have LD:=qh<|show Cl 9 #[.int .u8 o,.slice r u s] wr _ from ag.o f ⟨r,u,s⟩ d hgj wr c.o;clear g d j hgj;go_wp2_with fail
      with_reducible refine LD.o.mono ?_
      rintro e L ⟨y,m,q,rfl,hy,i⟩;have Y:=qh<|show EF L G.heap.size y q from hy.mono c.o.size;have A:=qh<|A.o.below i;have c:=qk c i;clear hy i LD F
      go_upto_region 13 with (fail)
      obtain⟨aH,M⟩:=gn (L.alloc (.cells (cTv y m).toArray 37));have E:=bq M (zk.alloc zj _);have N:=qh<|al M;obtain⟨aF,C⟩:=gn L.heap.size;rw[<- M,<- C];rw[<- C] at N;have A:=qh<|A.o.below E;have Y:=qh<|Y.o.below E;have c:=qk c E;clear M E C;have ek:=ae.o;obtain⟨aw,ax,ay,az,aA,aB,aC,aD⟩:=N.o.c8;go_wp2_with (first | (at_builtin;refine YO (t:=⟨y,m⟩) rfl _ _ rfl rfl (A.o.alloc _) (by rw[O.o];have:=h.o;have:=X.o;omega) (by have h9:=c.o.size;rw[World.size_alloc];omega) rfl (Bxs.new _ _ _) (Y.o.alloc _) rfl ?_))
      intro z9 w9 J T;obtain⟨aq,au,ar⟩:=z9;have aa:=qh J;have ac:=qh<|T.ofAlloc c.o.size;clear J T;go_wp2;go_roundw
      case rel =>
       refine⟨f+1,⟨aq,au,ar⟩,av++[(⟨y,m⟩,q)],h.o,rfl,rfl,aa.o,by rw[List.length_append,O.o];rfl,λk S=>?_,c.o.trans ac.o⟩;by_cases hk:k<f
       ·exact Q.o k hk
       ·obtain rfl:k=f:=Zo;exact af.o
      case measure=>simp[intOf];have:=h.o;omega
    ·exfalso;obtain⟨p,hi,S⟩:=ad.o;rw[Q.o p Zo] at S
     cases S
open Book
theorem tv_of {b off d:Nat} {s t:List TV} {c I:TV} (K:∀ d c,s[d]?=some c->∀ r v,c.cells[r]?=some v->w.cell? ⟨b,off+d*8+r,none⟩=some v) (J:∀ d c,t[d]?=some c->∀ r v,c.cells[r]?=some v->w.cell? ⟨b,off+d*8+r,none⟩=some v) (G:s[d]?=some c) (H:t[d]?=some I):c=I:=by
 obtain⟨u,z,A,B,C,D,E,F⟩:=RT.eight K G;obtain⟨f,g,h,i,j,n,o,p⟩:=RT.eight J H;rw[u] at f;rw[z] at g;rw[A] at h;rw[B] at i;rw[C] at j;rw[D] at n;rw[E] at o;rw[F] at p;obtain⟨⟨⟨Z,x1,U,c1⟩,⟨s2,x2,V,c2⟩⟩,⟨Q,R,S,T⟩⟩:=c;obtain⟨⟨⟨s3,x3,X,c3⟩,⟨s4,x4,Y,c4⟩⟩,⟨L,M,N,O⟩⟩:=I;simp only[Option.some.injEq,Value.bool.injEq,Value.slice.injEq,Value.int.injEq,true_and,Int.ofNat_inj] at f g h i j n o p;obtain⟨rfl,rfl,rfl⟩:=g;obtain⟨rfl,rfl,rfl⟩:=i;subst f h j n o p;rfl
theorem jab {c d:List TV} (B:RT w a c) (A:RT w a d) (i:c.length=d.length):c=d:=by
 by_cases h:c=[]
 ·rw[h] at i;rw[h];exact(List.length_eq_zero_iff.1 i.symm).symm
 ·have j:d≠[]:=λe=>h (List.length_eq_zero_iff.1 (by rw[i,e];rfl))
  obtain⟨b,o,r,t⟩:=B.ex h;obtain⟨z,u,f,s⟩:=A.ex j;rw[r] at f
  injection f with f
  injection f with e3 g
  subst e3
  have g:o=u:=by first | exact g | injection g
  subst g
  refine List.ext_getElem? λv=>?_
  by_cases hi:v<c.length
  ·have n:=List.getElem?_eq_getElem hi;have p:=List.getElem?_eq_getElem (show v<d.length by omega);rw[n,p,tv_of t s n p]
  ·rw[List.getElem?_eq_none Zo,List.getElem?_eq_none Zo]
def Inn (w:World) (x:PV):Prop:=∃ us,RT w x.a us/\us.length=x.n/\∀ u∈us,∃ o1 o2,Rd w u.c.t.a u.c.t.n o1/\Rd w u.c.l.a u.c.l.n o2
theorem SA.inn {n:Nat} (o:SA w x P ok n k e):Inn w x:=by
 rcases o.h with ⟨-,o⟩ | ⟨-,⟨v,⟨f,g,h,j,z,A⟩,u⟩,-⟩
 ·obtain⟨v,f,g,h,j⟩:=o.ex;refine⟨_,f,by rw[List.length_map,g],λB i=>?_⟩;obtain⟨e,d,rfl⟩:=List.mem_map.1 i;exact⟨_,_,(h e d).t.rd,(h e d).l.rd⟩
 ·refine⟨_,f,by rw[List.length_map,g],λB i=>?_⟩;obtain⟨e,d,rfl⟩:=List.mem_map.1 i;have c:=j e d;unfold TO.ok at c;split at c
  ·exact⟨_,_,c.t.rd,c.l.rd⟩
  ·obtain⟨p,r,s,t,-⟩:=c.ex;exact⟨p,r,s,t⟩
theorem Tw2.base {o:World} (G:Tw2 o w lo y x) (d:Bl W o) (h:Inn W x):Tw2 W w lo y x:=by
 obtain⟨D,E,c,s,g,t⟩:=G;obtain⟨L,f,p,r⟩:=h;obtain rfl:=jab s (f.below d) (by rw[g,p]);refine⟨D,E,⟨c.row,c.n,c.len,λH K F u i=>?_,c.ap⟩,f,g,t⟩;obtain⟨e,v,z,A,B,C⟩:=c.each H K F u i;obtain⟨I,J,j,n⟩:=r F (List.mem_of_getElem? i);exact⟨e,v,z,j.congr (jdy (j.below d) A),n.congr (jdy (n.below d) B),C⟩
theorem Tw2.rows {D:World} (I:Tw2 W D lo y x) (i:∀ (b:Nat) (H:Array Value) (F:TypeId),D.heap[b]?=some (.cells H F (0,0))->Zx F=true->w.heap[b]?=D.heap[b]?):Tw2 W w lo y x:=by
 obtain⟨C,E,c,r⟩:=I;refine⟨C,E,⟨⟨c.row.1,c.row.2.imp id ?_⟩,c.n,c.len,λJ K v t j=>?_,c.ap⟩,r⟩
 ·rintro⟨G,o,d,j,p,g,s⟩;exact⟨G,o,d,j,p,(i G _ _ g rfl).trans g,s⟩
 ·obtain⟨e,u,z,A,B,n⟩:=c.each J K v t j;refine⟨e,u,z,A,B,n.kept λb f=>?_⟩
  rcases f with f | f
  ·obtain⟨d,h⟩:=Xu n.top.own f;exact i b _ _ h rfl
  ·obtain⟨d,h⟩:=Xu n.low.own f;exact i b _ _ h rfl
theorem Tw2.kp (i:Tw2 W w lo y x) (A:KP W x P):KP w y P:=by
 obtain⟨g,Q,h,I,J,-⟩:=i;obtain⟨o,B,i,C,D⟩:=A.ex;obtain rfl:=jab I B (by rw[J,List.length_map,i]);obtain⟨K,L,M⟩:=h.rt
 have f:g.length=(o.map Prod.snd).length:=by rw[h.len,List.length_map,List.length_map]
 refine⟨⟨g.zip (o.map Prod.snd),?_,?_,λe F=>?_,?_⟩,M,A.canon,A.small⟩
 ·rw[List.map_fst_zip Zo];exact K
 ·rw[List.length_zip,<- f,Nat.min_self,L]
 ·obtain⟨n,hi⟩:=List.mem_iff_getElem?.1 F;obtain⟨j,q⟩:=e;obtain⟨H,s⟩:=U9 hi;rw[List.getElem?_map] at s;obtain⟨c,d,rfl⟩:=Option.map_eq_some_iff.1 s;obtain⟨-,N,O,u,v,z⟩:=h.each n j c.1 H (by rw[List.getElem?_map,d];rfl);exact z.k u v (C c (List.mem_of_getElem? d))
 ·rw[<- D]
  refine List.ext_getElem? λn=>?_
  rw[List.getElem?_map,List.getElem?_map]
  cases d:o[n]? with
  | none =>
   have E:=List.getElem?_eq_none_iff.1 d
   rw[List.getElem?_eq_none (l:=g.zip (o.map Prod.snd)) (by rw[List.length_zip,f,List.length_map,Nat.min_self];exact E)]
  | some c =>
   have r:=(List.getElem?_eq_some_iff.1 d).1;obtain⟨j,p⟩:∃ j,g[n]?=some j:=⟨_,List.getElem?_eq_getElem (by rw[f,List.length_map];exact r)⟩
   have t:(g.zip (o.map Prod.snd))[n]?=some (j,c.2):=by
    rw[List.getElem?_zip_eq_some];exact⟨p,by rw[List.getElem?_map,d];rfl⟩
   obtain⟨G,-⟩:=h.each n j c.1 p (by rw[List.getElem?_map,d];rfl);rw[t];show some (j.m,c.2)=some (c.1.m,c.2);rw[G]
theorem Tw2.bp (u:Tw2 W w lo y x) (V:BP W x):BP w y:=by
 obtain⟨s,Z,z,N,O,-⟩:=u;obtain⟨t,⟨F,u,X,G,H,I⟩,D⟩:=V;obtain rfl:=jab N F (by rw[O,List.length_map,u]);obtain⟨R,S,T⟩:=z.rt
 have r:s.length=(t.map Prod.snd).length:=by rw[z.len,List.length_map,List.length_map]
 have get:∀ (o:Nat) (e:TO),(s.zip (t.map Prod.snd))[o]?=some e->∃ c i j,t[o]?=some c/\e.2=c.2/\e.1.m=c.1.m/\Rd W c.1.c.t.a c.1.c.t.n i/\Rd W c.1.c.l.a c.1.c.l.n j/\TwF w lo e.1.c c.1.c i j:=λo e hi=>by
  obtain⟨U,q⟩:=e;obtain⟨L,E⟩:=U9 hi;rw[List.getElem?_map] at E;obtain⟨c,A,rfl⟩:=Option.map_eq_some_iff.1 E;obtain⟨K,i,j,d,g,n⟩:=z.each o U c.1 L (by rw[List.getElem?_map,A];rfl);exact⟨c,i,j,A,rfl,K,d,g,n⟩
 refine⟨s.zip (t.map Prod.snd),⟨?_,?_,T,λe h=>?_,λe h=>?_,λe h=>?_⟩,?_⟩
 ·rw[List.map_fst_zip Zo];exact R
 ·rw[List.length_zip,<- r,Nat.min_self,S]
 ·obtain⟨o,hi⟩:=List.mem_iff_getElem?.1 h;obtain⟨c,i,j,d,g,-,n,B,p⟩:=get o e hi;have v:=G c (List.mem_of_getElem? d);obtain⟨U,q⟩:=e;obtain⟨Y,Q⟩:=c;have g:q=Q:=g;subst g;unfold TO.ok at v ⊢
  cases q with
  | some q=>exact p.k n B v
  | none=>exact p.b n B v
 ·obtain⟨o,hi⟩:=List.mem_iff_getElem?.1 h;obtain⟨c,i,j,d,-,g,-⟩:=get o e hi;rw[g];exact H c (List.mem_of_getElem? d)
 ·obtain⟨o,hi⟩:=List.mem_iff_getElem?.1 h;obtain⟨c,i,j,d,-,-,-,-,p⟩:=get o e hi;have C:=I c (List.mem_of_getElem? d);exact⟨by rw[p.top.n];exact C.1,by rw[p.low.n];exact C.2⟩
 ·rw[show okP (s.zip (t.map Prod.snd))=okP t by
   unfold okP
   rw[Vx (L:=s.zip (t.map Prod.snd)) (M:=t) (by rw[List.length_zip,r,Nat.min_self,List.length_map]) λo e f h J=>by
    obtain⟨c,-,-,d,g,n,-⟩:=get o e h;rw[J] at d;obtain rfl:=Option.some.inj d
    exact⟨n,g⟩]]
  exact D
theorem Tw2.n (f:Tw2 W w lo y x):y.n=x.n:=by
 obtain⟨g,h,c,-,d,-⟩:=f;rw[c.n,d]
theorem Tw2.sa {n:Nat} (d:Tw2 W w lo y x) (c:SA W x P ok n k e):SA w y P ok n k e :=
 ⟨c.h.imp (λc=>⟨c.1,d.kp c.2⟩) (λc=>⟨c.1,d.bp c.2.1,c.2.2⟩),c.b,by rw[d.n];exact c.le⟩
def YF (W w:World) (lo hi:Nat) (y x:PV):Prop:=∃ u:World,u.heap.size=hi/\Tw2 W u lo y x/\∀ (b:Nat) (c:Array Value) (T:TypeId),u.heap[b]?=some (.cells c T (0,0))->Zx T=true->w.heap[b]?=u.heap[b]?
theorem YF.new (c:Tw2 W w lo y x):YF W w lo w.heap.size y x:=⟨w,rfl,c,λ_ _ _ _ _=>rfl⟩
theorem YF.rows (o:YF W w lo hi y x) (n:∀ (b:Nat) (g:Array Value) (f:TypeId),w.heap[b]?=some (.cells g f (0,0))->Zx f=true->w'.heap[b]?=w.heap[b]?):YF W w' lo hi y x:=by
 obtain⟨p,i,j,h⟩:=o;exact⟨p,i,j,λb g f d c=>(n b g f ((h b g f d c).trans d) c).trans (h b g f d c)⟩
theorem YF.tw (f:YF W w lo hi y x):Tw2 W w lo y x:=by
 obtain⟨h,g,c,d⟩:=f;exact c.rows d
theorem YF.ps (X:YF W w lo hi y x) (Y:x.n<=10000):∃ d,PS w lo y d (Bw lo hi):=by
 obtain⟨ad,H,I,j⟩:=X;obtain⟨d,E,c,M,N,k4⟩:=I;obtain⟨o,U,r,m2,m3,D⟩:=(show Tw2 W ad lo y x from⟨d,E,c,M,N,k4⟩).rows j;obtain⟨z,A,-⟩:=TwP.hg r D Zo (q:=0) Zo;have C:=r.n;refine⟨o,z,A,λq Z=>?_⟩;have f:=(TwP.hg r D Zo (q:=q) (by rw[<- C];omega)).2.2;have F:=(TwP.hg c k4 Zo (q:=q) (by have:=c.n;omega)).2.2
 have e:d=o:=by
  obtain⟨V,G,-⟩:=TwP.hg c k4 Zo (q:=0) Zo
  have S:RT w y.a d:=by
   obtain⟨s,-⟩:=(show TwP W w lo y d E from⟨⟨c.row.1,c.row.2.imp id (by
    rintro⟨T,u,g,p,B,n,h⟩
    exact⟨T,u,g,p,B,(j T _ _ n rfl).trans n,h⟩)⟩,c.n,c.len,λaa ac v K p=>by
    obtain⟨e,O,Q,s,R,t⟩:=c.each aa ac v K p;refine⟨e,O,Q,s,R,t.kept λb i=>?_⟩
    rcases i with i | i
    ·obtain⟨g,h⟩:=Xu t.top.own i;exact j b _ _ h rfl
    ·obtain⟨g,h⟩:=Xu t.low.own i
     exact j b _ _ h rfl,c.ap⟩).rt
   exact s
  exact jab S z (by rw[G,A])
 subst e;exact⟨f.num,f.row,λx L ab J=>by rw[<- H];exact F.at_ x L ab J,f.nq,f.al,f.am⟩
structure KE (W w:World) (lo:Nat) (es:List (PV × PV)):Prop where
 ex:∃ A B:Nat->Nat,(∀ i e,es[i]?=some e->lo<=A i/\A i<=B i/\B i<=w.heap.size/\YF W w (A i) (B i) e.1 e.2)/\∀ i j,i<es.length->j<es.length->i≠j->B i<=A j\/B j<=A i
theorem KE.nil (f h:World) (d:Nat):KE f h d []:=⟨λ_=>0,λ_=>0,λg e c=>by simp at c,λg i c=>absurd c (Nat.not_lt_zero _)⟩
theorem KE.rows {c:List (PV × PV)} (v:KE W w lo c) (o:w.heap.size<=w'.heap.size) (n:∀ (b:Nat) (u:Array Value) (r:TypeId),w.heap[b]?=some (.cells u r (0,0))->Zx r=true->w'.heap[b]?=w.heap[b]?):KE W w' lo c:=by
 obtain⟨s,t,i,j⟩:=v.ex;refine⟨s,t,λA z p=>?_,j⟩;obtain⟨d,f,g,h⟩:=i A z p;exact⟨d,f,zm g o,h.rows n⟩
theorem KE.below {c:List (PV × PV)} (g:KE W w lo c) (d:Bl w w'):KE W w' lo c:=g.rows d.size λb _ _ f _=>d.block b (lt_of_block f)
theorem KE.snoc {c:List (PV × PV)} (G:KE W w lo c) (j:Bl w w') (p:lo<=w.heap.size) (D:Tw2 W w' w.heap.size y x):KE W w' lo (c++[(y,x)]):=by
 obtain⟨F,E,i,B⟩:=G.ex
 have n:∀ k,k<c.length->E k<=w.heap.size:=λk g=>(i k _ (List.getElem?_eq_getElem g)).2.2.1
 refine⟨λk=>if k<c.length then F k else w.heap.size,λk=>if k<c.length then E k else w'.heap.size,λk z h=>?_,λk s g C r=>?_⟩
 ·by_cases g:k<c.length
  ·rw[List.getElem?_append_left g] at h;obtain⟨t,u,v,A⟩:=i k z h;simp only[if_pos g];exact⟨t,u,zm v j.size,A.rows λb _ _ i _=>j.block b (lt_of_block i)⟩
  ·have o:=(List.getElem?_eq_some_iff.1 h).1;rw[List.length_append,List.length_singleton] at o;obtain rfl:k=c.length:=Zo;rw[List.getElem?_append_right zj,Nat.sub_self] at h
   cases h
   simp only[if_neg g];exact⟨p,j.size,zj,YF.new D⟩
 ·rw[List.length_append,List.length_singleton] at g C;by_cases f:k<c.length
  ·by_cases d:s<c.length
   ·simp only[if_pos f,if_pos d];exact B k s f d r
   ·simp only[if_pos f,if_neg d];exact Or.inl (n k f)
  ·by_cases d:s<c.length
   ·simp only[if_neg f,if_pos d];exact Or.inr (n s d)
   ·omega
theorem jac {a:Addr} {v:Value} (d:w.cell? a=some v) (c:Bl w w'):w'.cell? a=some v:=(c.cell (p:=a) (block_lt_of_cell d)).trans d
theorem OW.alloc {v:Value} {c:List PV} (d:OW w lo v c) (o:Obj):OW (w.alloc o) lo v c:=d.below (zk.alloc zj _)
theorem jc8 {o:Array Oper} {rest:List Oper} {i:Oper} {g:Act} {Z:Exit->Act->World->Prop} (D:i.guard=none) (V Y:Operand)
  (Q:i.op=.call { callee:=.builtin .append,args:=#[V,Y],argTypes:=#[40,40] })
  {f:World} {c:Nat} {v:Value} {d:List PV} (R:g.eval V=v) (t:OW f c v d) (hn:d.length<=1000000) (C:c<=f.heap.size)
  {s:Nat} {z:PV} {m r:Nat} (T:g.eval Y=.slice (some ⟨s,0,none⟩) m r) (L:Bxs f s 23 [z.v]) (O:m=1)
  (J:∀ (a:Option Addr) (n h:Nat) w',OW w' c (.slice a n h) (d++[z])->n=d.length+1->f.heap.size<=w'.heap.size ->
   (∀ (b:Nat) (r:Array Value) (p:TypeId),f.heap[b]?=some (.cells r p (0,0))->Zx p=true->w'.heap[b]?=f.heap[b]?)->Below c f w'->wpList prog o Z rest (g.put i.dst (.slice a n h)) w'):wpList prog o Z (i :: rest) g f:=by
 subst O;obtain⟨U,hi,F,G,H⟩:=info_parts infoPo;refine wpList_append_own _ D V Y 40 Q c 23 U _ 1 24 underlying40 hi F G H rfl Ze v _ _ R t ⟨s,0,none⟩ 1 r [z.v] T rfl (λad aa M=>?_) (λaa S=>by rw[List.mem_singleton.1 S];rfl) ?_ ?_ C ?_
 ·rw[Addr.add_lit,Nat.zero_add];exact L.cell M
 ·unfold maxLen;omega
 ·omega
 ·intro X w' u hg _
  have E:OW w' c X (d++[z]):=by
   show w'.ownsRow _ _ _ _ _ _;rw[List.length_append,List.map_append];exact u
  have N:∀ (b:Nat) (r:Array Value) (p:TypeId),f.heap[b]?=some (.cells r p (0,0))->Zx p=true->w'.heap[b]?=f.heap[b]?:=λb r p B K=>hg.block b (lt_of_block B) λe=>by
   obtain⟨_,c2,A⟩:=t.own e;rw[B] at A
   have:p=23:=by have I:=Option.some.inj A;injection I
   subst this;exact absurd K Ze
  have j:Below c f w':=zk.grown hg C (λab hg=>(t.own hg.symm).1);obtain⟨a,h,e,-⟩:=E.cells;subst e;exact J a _ h w' E (by rw[List.length_append];rfl) j.size N j
theorem jgi {d f:Type}:∀ {l:List d} {m:List f} {a:d} {b:f},m[l.length]?=some b->(l++[a]).zip m=l.zip m++[(a,b)]
 | [],[],_,_,c=>by simp at c
 | [],_ :: _,_,_,c=>by simp at c;subst c;simp
 | _ :: _,[],_,_,c=>by simp at c
 | x :: l,y :: m,a,b,c=>by
  have c:m[l.length]?=some b:=by simpa using c
  rw[zi,List.zip_cons_cons,List.zip_cons_cons,jgi c,zi]
theorem jba (a:Option Addr) (n av au k ar:Nat) (s:List PV) (t:World) (hr:RS t a s) (hl:s.length=n) (hn:n<=1000000) (f:∀ x∈s,∃ P ok,SA t x P ok au k ar) (hk:k<=900000) :
  Cl 22 #[.slice a n av] t λe w'=>∃ (b:Option Addr) (am:Nat) (d:List PV),e=.returned (.slice b n am)/\OW w' t.heap.size (.slice b n am) d/\d.length=n/\KE t w' t.heap.size (d.zip s)/\Bl t w':=by
 have HR:=qh hr;have af:=qh hl;have HN:=qh hn;have HX:=qh f;have HK:=qh hk;clear hr hl hn f hk;go_enter func22,ntmps22;go_wp2;go_loopw [3,4] (λo ak wr=>∃ (h:Nat) (E:Option Addr) (v F:Nat) (d:List PV),o=.slice E v F/\ak=.int .i64 h/\h<=n/\OW wr t.heap.size (.slice E v F) d/\d.length=h/\v=h/\KE t wr t.heap.size (d.zip s)/\Bl t wr) (λ_ ak _=>n-(intOf ak).toNat)
 case atStart=>exact⟨0,none,0,0,[],rfl,rfl,Nat.zero_le _,World.ownsRow_nil _ _ _ _,rfl,rfl,KE.nil _ _ _,zk⟩
 case round =>
  obtain⟨h,E,v,F,d,rfl,rfl,hj,L,S,N,Q,G⟩:=hrel;have HJ:=qh hj;have j:=qh L;have g:=qh S;have p:=qh Q;have c:=qh G;have ad:=qh N;clear hj L S N Q G;by_cases r:h<n
  ·have i:=qh r;have aq:(h:Int)<(n:Int):=Zo;obtain⟨⟨U,X,V⟩,f⟩:∃ x,s[h]?=some x:=⟨_,List.getElem?_eq_getElem (by rw[af.o];exact r)⟩;obtain⟨P,ok,u⟩:=HX.o _ (List.mem_of_getElem? f);obtain⟨ab,ao,rfl,I⟩:=(HR.o.below c.o).ex (λe=>by rw[e] at f;simp at f);have ah:wr.cell? ⟨ab,ao+h,none⟩=some (.slice U X V):=I h _ f;have ek:IntKind.i64.wrap ((h:Int)+1)=(h:Int)+1:=IntWalk.i64_in _ (Zi i HN);have ae:=qh f;have Z:=qh u.inn;have Y:=qh<|show Cl 7 #[.slice U X V] wr _ from jja (x:=⟨U,X,V⟩) (u.below c.o) HK.o;clear r f u I;go_wp2_with fail
   with_reducible refine Y.o.mono ?_
   rintro e w2 ⟨⟨A,C,B⟩,he,ai,aj,R,D⟩;obtain rfl:e=.returned (.slice A C B):=he;have p:=qh<|p.o.snoc D c.o.size (R.base c.o Z.o);have j:=qh<|j.o.below D;have c:=qk c D;clear ai aj R D Y ah;go_wp2_with (first | (at_builtin;refine jc8 (z:=⟨A,C,B⟩) rfl _ _ rfl rfl (j.o.alloc _) (by have:=g.o;have:=i.o;have:=HN.o;omega) (zm c.o.size (by rw[World.size_alloc];exact Nat.le_succ _)) rfl (Bxs.new w2 23 [.slice A C B]) rfl ?_))
   intro a9 n9 c9 w9 M K O J H;have T:=qh<|(p.o.below (zk.alloc zj (.cells #[.slice A C B] 23))).rows (by rw[World.size_alloc];exact O) J;have ag:=qh<|show Bl t w9 from(c.o.alloc c.o.size _).trans H;have ac:=qh M;have aa:=qh K;clear M K O J H;go_wp2;go_roundw
   case rel =>
    refine⟨h+1,a9,n9,c9,d++[⟨A,C,B⟩],rfl,rfl,i.o,ac.o,by rw[List.length_append,g.o];rfl,by rw[aa.o,g.o],?_,ag.o⟩;rw[jgi (by rw[g.o];exact ae.o)];exact T.o
   case measure=>simp[intOf];have:=i.o;omega
  ·have an:¬((h:Int)<(n:Int)):=Zo;obtain rfl:h=n:=Zh HJ;obtain rfl:v=h:=ad.o;clear r;go_wp2;go_ret;exact⟨E,F,rfl,d,j.o,g.o,p.o,c.o⟩
theorem je2 (a b:Option Addr) (n af ag:Nat) (r s:List PV) (z:World) (M:RS z a r) (c:RS z b s) (g:r.length=n) (h:s.length=n) (Q:n<=1000000)
  (O:∀ (G:Nat) (x y:PV),r[G]?=some x->s[G]?=some y->∀ w',Bl z w'->Cl 16 #[x.v,y.v] w' λe o=>e=.returned (.bool true)/\Bl w' o) :
  Cl 27 #[.slice a n af,.slice b n ag] z λe w'=>e=.returned (.bool true)/\Bl z w':=by
 have U:=qh M;have V:=qh c;have K:=qh g;have L:=qh h;have Y:=qh Q;have X:=qh O;clear M c g h Q O;go_enter func27,ntmps27;go_wp2;go_loopw [5] (λG wr=>∃ i:Nat,i<=n/\G=.int .i64 i/\Bl z wr) (λG _=>n-(intOf G).toNat)
 case atStart=>exact⟨0,Nat.zero_le _,rfl,zk⟩
 case round =>
  obtain⟨i,N,rfl,t⟩:=hrel;have HJ:=qh N;have d:=qh t;clear N t;by_cases f:i<n
  ·have p:=qh f;have ae:(i:Int)<(n:Int):=Zo;obtain⟨⟨A,C,B⟩,g⟩:∃ x,r[i]?=some x:=⟨_,List.getElem?_eq_getElem (by rw[K.o];exact f)⟩;obtain⟨⟨D,F,E⟩,h⟩:∃ y,s[i]?=some y:=⟨_,List.getElem?_eq_getElem (by rw[L.o];exact f)⟩;have J:=qh (show ∀ w',Bl z w'->Cl 16 #[.slice A C B,.slice D F E] w' λe o=>e=.returned (.bool true)/\Bl w' o from λw' c=>X.o i ⟨A,C,B⟩ ⟨D,F,E⟩ g h w' c);obtain⟨Z,ao,rfl,u⟩:=(U.o.below d.o).ex (λe=>by rw[e] at g;simp at g);obtain⟨bb,bo,rfl,v⟩:=(V.o.below d.o).ex (λe=>by rw[e] at h;simp at h);have H:=qh<|show wr.cell? ⟨Z,ao+i,none⟩=some (.slice A C B) from u i _ g;have I:=qh<|show wr.cell? ⟨bb,bo+i,none⟩=some (.slice D F E) from v i _ h;have ek:IntKind.i64.wrap ((i:Int)+1)=(i:Int)+1:=IntWalk.i64_in _ (Zi p Y);have ac:=qh f;clear g h u v
   go_upto_region 6 with (fail)
   refine FS.Jd 9 [] (FS.JI [(8,FS.Sp.know (.bool true))])
    (λw'=>Bl wr w') Zk Zk Zk
    (FS.Jb (FS.Sp.Jk _ _) (FS.Jh)) (λ_ _ S c=>S.trans (c.mono S.size)) (zk.drew) ?_
   simp only[zu,zi,ze,zx,zy,zv,zw]
   iterate 8
    refine FS.rdw (λw' j=>by have hs:=jac H.o j;have hs:=jac I.o j;go_simp;try rfl) ?_
   refine FS.Jc rfl rfl rfl (λw' R=>?_) ?_
   ·have j:=R.world;refine FS.Jm (FS.PK (.bool true)) ?_ (λ_ _ S=>S.post);go_simp;have T:=J.o w' (d.o.trans (j.mono d.o.size));refine T.mono ?_;rintro e o ⟨rfl,c⟩;exact⟨_,rfl,rfl,c⟩
   rintro _ rfl
   conv=>arg 10;simp only[Act.put,zq0,zq1,zq2]
   refine FS.Jn (λaa c hF=>?_);clear hF;have d:=qk d c;clear c;go_wp2;go_roundw
   case rel=>exact⟨i+1,p.o,rfl,d.o⟩
   case measure=>simp[intOf];have:=p.o;omega
  ·have ad:¬((i:Int)<(n:Int)):=Zo;clear f;go_wp2;go_ret;exact⟨rfl,d.o⟩
structure DIn (w:World) (P:List Tm) (ok:Bool) (Qs:List (List Tm × Bool)) (x:PV) (a:Option Addr) (xs:List PV):Prop where
 sa:SA w x P ok 8 4 65535
 row:RS w a xs
 len:xs.length=Qs.length
 q:∀ (i:Nat) (y:PV) (Q:List Tm × Bool),xs[i]?=some y->Qs[i]?=some Q->SA w y Q.1 Q.2 8 4 65535
theorem DIn.below {d:List (List Tm × Bool)} {f:List PV} (g:DIn w P ok d x a f) (c:Bl w w'):DIn w' P ok d x a f :=
 ⟨g.sa.below c,g.row.below c,g.len,λn y j h i=>(g.q n y j h i).below c⟩
theorem raw_sa {g:List TO} (f:RawQ w x g) (hg:Qi 8 (g.map Prod.fst)):∃ (P:List Tm) (ok:Bool),SA w x P ok 8 4 65535/\(ok=true->InP w x (g.map Prod.fst) 8 P):=by
 rcases raw_in f hg with ⟨P,c⟩ | o
 ·refine⟨P,true,⟨Or.inl ⟨rfl,c.k⟩,⟨c.k.canon,⟨c.len,λp d=>c.lq p d,λp d=>?_⟩⟩,?_⟩,λ_=>c⟩
  ·obtain⟨h,i,j,n⟩:=c.k.small p d;exact⟨h,i,j,n⟩
  ·have r:=c.k.len;have s:=c.len;omega
 ·exact⟨[],false,⟨Or.inr ⟨rfl,o,rfl⟩,PC.nil _ _ _,zm (BP.n_le f hg) Ze⟩,λf=>by cases f⟩
theorem jjb:∀ (g:List (PV × List TO)),(∀ e∈g,RawQ w e.1 e.2/\Qi 8 (e.2.map Prod.fst))->∃ c:List (List Tm × Bool),c.length=g.length /\
  ∀ (h:Nat) (e:PV × List TO) (d:List Tm × Bool),g[h]?=some e->c[h]?=some d->SA w e.1 d.1 d.2 8 4 65535/\(d.2=true->InP w e.1 (e.2.map Prod.fst) 8 d.1)
 | [],_=>⟨[],rfl,λh e d n=>by simp at n⟩
 | e :: r,n=>by
  obtain⟨c,o,p⟩:=jjb r λx z=>n x (List.mem_cons_of_mem _ z)
  obtain⟨s,t⟩:=n e (List.mem_cons_self ..);obtain⟨P,ok,u,v⟩:=raw_sa s t;refine⟨(P,ok) :: c,by rw[List.length_cons,List.length_cons,o],λh f d j i=>?_⟩
  cases h with
  | zero =>
   cases j;cases i
   exact⟨u,v⟩
  | succ h=>exact p h f d j i
def DOwn (W:World) (code:Int) (N:Nat) (Fin:DS->Prop) (e:Ending) (w':World):Prop :=
 ∃ (v r:PV) (zs:List PV) (s:DS),e=.returned (.tuple #[v.v,r.v,.int .i64 code])/\Fin s/\v.n=N/\zs.length=N/\OQ w' W.heap.size v.v zs/\Sep w' W.heap.size ((r,s.r) :: zs.zip s.os)/\Bl W w'
def DRef (W:World) (code:Int) (N:Nat) (Fin:DS->Prop) (e:Ending) (w':World):Prop :=
 ∃ (v r:PV) (zs:List PV) (s:DS),e=.returned (.tuple #[v.v,r.v,.int .i64 code])/\Fin s/\v.n=N/\zs.length=N/\RS w' v.a zs/\(∀ (i:Nat) (z:PV) (q:List Tm),zs[i]?=some z->s.os[i]?=some q->KP w' z q)/\KP w' r s.r/\Bl W w'
structure DRes (o:Int) (n:Nat) (P:List Tm) (ok:Bool) (Qs:List (List Tm × Bool)) (code:Int) (N:Nat) (Fin:DS->Prop):Prop where
 uniq:∀ s s',Fin s->Fin s'->s=s'
 n4:N<=4
 b:∀ s,Fin s->s.os.length=N/\(∀ q∈s.os,q.length<=656/\∀ t∈q,LQ t.2 900000)/\s.r.length<=656/\∀ t∈s.r,LQ t.2 900000
 own:∀ (W:World) (y:PV) (b:Option Addr) (c:Nat) (ys:List PV),DIn W P ok Qs y b ys->Cl 23 #[.int .u8 o,y.v,.slice b n c] W (DOwn W code N Fin)
 ref:∀ (W:World) (y:PV) (b:Option Addr) (c:Nat) (ys:List PV),DIn W P ok Qs y b ys->Cl 25 #[.int .u8 o,y.v,.slice b n c] W (DRef W code N Fin)
theorem DRes.refused {o c:Int} {n:Nat} {p:List Tm} {ok:Bool} {h:List (List Tm × Bool)}
  (r:∀ (W:World) (y:PV) (b:Option Addr) (i:Nat) (d:List PV),DIn W p ok h y b d->Cl 23 #[.int .u8 o,y.v,.slice b n i] W λe w'=>e=.returned (.tuple #[.slice none 0 0,.slice none 0 0,.int .i64 c])/\Bl W w')
  (s:∀ (W:World) (y:PV) (b:Option Addr) (i:Nat) (d:List PV),DIn W p ok h y b d->Cl 25 #[.int .u8 o,y.v,.slice b n i] W λe w'=>e=.returned (.tuple #[.slice none 0 0,.slice none 0 0,.int .i64 c])/\Bl W w') :
  DRes o n p ok h c 0 (λA=>A=⟨[],[],[]⟩) where
 uniq A s' f h':=f.trans h'.symm
 n4:=by decide
 b A f:=by subst f;exact⟨rfl,λq t=>(by cases t),Nat.zero_le _,λC u=>(by cases u)⟩
 own W y b i d f:=(r W y b i d f).mono λe w' ⟨j,g⟩=>⟨⟨none,0,0⟩,⟨none,0,0⟩,[],⟨[],[],[]⟩,j,rfl,rfl,rfl,World.ownsRow_nil _ _ _ _,(Sep.start W [(⟨none,0,0⟩,[])] λz v=>List.mem_singleton.1 v).below g,g⟩
 ref W y b i d f:=(s W y b i d f).mono λe w' ⟨j,g⟩=>⟨⟨none,0,0⟩,⟨none,0,0⟩,[],⟨[],[],[]⟩,j,rfl,rfl,rfl,RS.nil _ _,λB z q f=>by simp at f,(DP.none w' 0).k,g⟩
theorem jll {o:Int} {c:List Dv} {N:PV} {H:List TV} {A:List (List TV)} {K:List (PV × List Tm)} (C:0<=o) (hg:U6 w o 8 N H P A K c) (j:DGr o 8 6 H A) :
  ∃ (d:DS->Prop) (z:DS->Nat),DivP o c d z 11825 4 8 656/\d ⟨P,[],List.replicate c.length []⟩/\(∀ f i r t,d f->Zr (JN o) f.p i->VX c i.1 r t->¬Ovf t.2 [byT i t.1]) /\
   ∀ f,d f->f.os.length=c.length/\∃ r,f=Ya (JN o) c r ⟨P,[],List.replicate c.length []⟩:=by
 have key:∀ (c0:Mo) (W:Nat),W<=24->Wts o c P c0 W->(Xt c0 W).length<=656->Dvb (JN o) c c0 W 6 8 4 (5+8)->∃ (d:DS->Prop) (z:DS->Nat),DivP o c d z 11825 4 8 656/\d ⟨P,[],List.replicate c.length []⟩/\(∀ f i r t,d f->Zr (JN o) f.p i->VX c i.1 r t->¬Ovf t.2 [byT i t.1]) /\
   ∀ f,d f->f.os.length=c.length/\∃ r,f=Ya (JN o) c r ⟨P,[],List.replicate c.length []⟩:=λc0 W M g u v=>by
  obtain⟨h,p⟩:∃ h:Int,∀ i∈P,JN o i.1<=h:=by
   by_cases B:P=[]
   ·subst B;exact⟨0,λi p=>by cases p⟩
   ·obtain⟨Q,E⟩:=jdp (JN o) B;exact⟨_,E.2⟩
  have I:=(gi_divP (P:=P) (top:=h) (k0:=5+8) (G:=18) (k:=11825) v zj u Ze Ze Ze Ze Ze).also (λf=>∃ r,f=Ya (JN o) c r ⟨P,[],List.replicate c.length []⟩) λf O hi ⟨n,e⟩ D=>⟨n+1,by
   have L:=stepF_eq (Kz o) hi.al.cp (λi p=>(wt_le v.pos (hi.w i p)).up Zo) D;rw[L,e]
   rfl⟩
  exact⟨_,_,I,⟨GI.start hg.p.k.canon g.p hg.p.cd p,0,rfl⟩,λf i r t s J F=>dno_ovf v s.1 J.1 (List.mem_of_getElem? F.1),λf s=>⟨s.1.al.len,s.2⟩⟩
 rcases wts_ex C hg.o2 j hg.p hg.q hg.e hg.lead with g | g
 ·exact key _ 6 Ze g box_1_6 (hg.dvb j g Ze)
 ·exact key _ 24 Ze g box_8_24 (hg.dvb j g Ze)
theorem RS.ofRowIs {f n:Nat} {g:Nat->PV} (h:w.rowIs f 23 n (λk=>(g k).v)):RS w (some ⟨f,0,none⟩) ((List.range n).map g):=by
 refine⟨λ_=>⟨f,0,rfl,λi o hi=>?_⟩⟩;rw[List.getElem?_map] at hi;obtain⟨j,c,rfl⟩:=Option.map_eq_some_iff.1 hi;have d:=(List.getElem?_eq_some_iff.1 c).1;rw[List.length_range] at d;rw[List.getElem?_range d] at c
 cases c
 rw[Nat.zero_add];exact h.cell d
theorem zip_fst {c d:Type}:∀ {l:List c} {m:List d},l.length=m.length->(l.zip m).map Prod.fst=l
 | [],[],_=>rfl
 | a :: l,b :: m,h=>by
  rw[List.zip_cons_cons,List.map_cons,zip_fst (by simpa using h)]
theorem jad {c d:Type}:∀ {l:List c} {m:List d},l.length=m.length->(l.zip m).map Prod.snd=m
 | [],[],_=>rfl
 | a :: l,b :: m,h=>by
  rw[List.zip_cons_cons,List.map_cons,jad (by simpa using h)]
theorem DIn.kp {d:List (List Tm × Bool)} {i:List PV} (s:DIn w P ok d x a i) (f:∀ j∈d,j.2=true):∀ q∈i.zip (d.map Prod.fst),KP w q.1 q.2:=λq r=>by
 obtain⟨t,hi⟩:=List.mem_iff_getElem?.1 r;obtain⟨n,g⟩:=List.getElem?_zip_eq_some.1 hi;rw[List.getElem?_map] at g;obtain⟨j,h,o⟩:=Option.map_eq_some_iff.1 g;have p:=s.q t q.1 j n h;rw[<- o]
 rcases p.h with ⟨_,c⟩ | ⟨c,_⟩
 ·exact c
 ·rw[f j (List.mem_of_getElem? h)] at c;cases c
theorem je3 {o:Int} {aJ:List TO} {n:Nat} {K:List (PV × List TO)} (aH:0<=o) (hx:RawL w x aJ) (hX:RawR w a n K) (aa:DGr o 8 6 (tsOf aJ) (LsOf K)) :
  ∃ (P:List Tm) (ok:Bool) (d:List (List Tm × Bool)) (aA:Int) (aL:Nat) (aB:DS->Prop),DIn w P ok d x a (K.map Prod.fst)/\DRes o n P ok d aA aL aB/\d.length=n:=by
 have aG:Qi 8 (aJ.map Prod.fst):=aa.p;obtain⟨P,ok,aI,aD⟩:=raw_sa hx.1 aG
 obtain⟨d,ak,D⟩:=jjb (w:=w) K λe he=>⟨(hX.e e he).1,(aa.l _ (List.mem_map.2 ⟨e,he,rfl⟩)).1⟩
 have u:d.length=n:=by rw[ak,hX.len]
 have aF:n<=4:=aa.n hX
 have ae:DIn w P ok d x a (K.map Prod.fst):=⟨aI,hX.row,by rw[List.length_map,ak],λg y h E F=>by
  rw[List.getElem?_map] at E;obtain⟨e,c,rfl⟩:=Option.map_eq_some_iff.1 E
  exact(D g e h c F).1⟩
 have S:∀ {W:World} {y:PV} {aM:List Tm} {b:Bool},SA W y aM b 8 4 65535->Chk W y b:=λj w1 G=>check_sa (j.below G) Ze
 have H:∀ {W:World} {y:PV} {b:Option Addr} {t:List PV},DIn W P ok d y b t->∀ (g:Nat) (z:PV),t[g]?=some z->∃ h,d[g]?=some h:=λj g z s=>by
  have E:=(List.getElem?_eq_some_iff.1 s).1;rw[j.len] at E;exact⟨_,List.getElem?_eq_getElem E⟩
 by_cases M:2<o\/ok=false\/∃ (g:Nat) (h:List Tm × Bool),d[g]?=some h/\h.2=false
 ·refine⟨P,ok,d,1,0,_,ae,DRes.refused (λW y b ad t j=>?_) (λW y b ad t j=>?_),u⟩
  ·by_cases U:2<o
   ·exact div_no1 o y _ W U
   by_cases Q:ok=false
   ·subst Q;exact div_no2 o y _ W Zo (S j.sa)
   have Q:ok=true:=by cases ok with
    | true=>rfl
    | false=>exact absurd rfl Q
   subst Q
   rcases jaw (n:=d.length) (A:=λg=>∀ h:List Tm × Bool,d[g]?=some h->h.2=true) (B:=λg=>∀ h:List Tm × Bool,d[g]?=some h->h.2=false) (λg hi=>by
    rw[List.getElem?_eq_getElem hi]
    cases j:(d[g]).2
    ·exact Or.inr λh i=>by injection i with i;rw[<- i];exact j
    ·exact Or.inl λh i=>by injection i with i;rw[<- i];exact j) with C | ⟨k,hk,E,F⟩
   ·rcases M with c | c | ⟨g,h,c,p⟩
    ·exact absurd c U
    ·cases c
    ·have:=C g (List.getElem?_eq_some_iff.1 c).1 h c
     rw[this] at p;cases p
   ·have hn:n=t.length:=by rw[j.len,u]
    rw[hn]
    exact div_no3 o y b ad t k W Zo (S j.sa) j.row Zo (by rw[j.len];exact hk) (λg z hi s=>by
     obtain⟨h,i⟩:=H j g z s;have c:=S (j.q g z h s i)
     rwa [F g hi h i] at c) λz s=>by
     obtain⟨h,i⟩:=H j k z s;have c:=S (j.q k z h s i);rwa [E h i] at c
  ·refine je0 o y b n ad t ok (λg=>(d[g]?.map Prod.snd).getD true) W j.row (by rw[j.len,u]) Zo (λaz G=>Yc (j.sa.below G) Ze) (λg z s az G=>?_) ?_
   ·obtain⟨h,i⟩:=H j g z s;have c:=Yc ((j.q g z h s i).below G) Ze;rw[i];exact c
   ·rcases M with c | c | ⟨g,h,c,p⟩
    ·exact Or.inl c
    ·exact Or.inr (Or.inl c)
    ·exact Or.inr (Or.inr ⟨g,by have:=(List.getElem?_eq_some_iff.1 c).1;omega,by rw[c];exact p⟩)
 have U:o<=2:=by
  rcases Int.lt_or_le 2 o with j | j
  ·exact absurd (Or.inl j) M
  ·exact j
 have Q:ok=true:=by
  cases ok with
  | true=>rfl
  | false=>exact absurd (Or.inr (Or.inl rfl)) M
 subst Q
 have C:∀ h∈d,h.2=true:=λh i=>by
  obtain⟨g,hi⟩:=List.mem_iff_getElem?.1 i
  cases j:h.2 with
  | true=>rfl
  | false=>exact absurd (Or.inr (Or.inr ⟨g,h,hi,j⟩)) M
 by_cases s:∃ (g:Nat) (h:List Tm × Bool),d[g]?=some h/\h.1=[]
 ·refine⟨P,true,d,6,0,_,ae,DRes.refused (λW y b ad t j=>?_) (λW y b ad t j=>?_),u⟩
  ·rcases jaw (n:=d.length) (A:=λg=>∀ h:List Tm × Bool,d[g]?=some h->h.1≠[]) (B:=λg=>∀ h:List Tm × Bool,d[g]?=some h->h.1=[]) (λg hi=>by
    rw[List.getElem?_eq_getElem hi];by_cases j:(d[g]).1=[]
    ·exact Or.inr λh i=>by injection i with i;rw[<- i];exact j
    ·exact Or.inl λh i=>by injection i with i;rw[<- i];exact j) with hne | ⟨k,hk,E,F⟩
   ·obtain⟨g,h,c,p⟩:=s;exact absurd p (hne g (List.getElem?_eq_some_iff.1 c).1 h c)
   ·have O:t.length=(d.map Prod.fst).length:=by rw[j.len,List.length_map]
    have V:(t.zip (d.map Prod.fst)).length=n:=by rw[List.length_zip,<- O,Nat.min_self,j.len,u]
    have am:∀ (g:Nat) (q:PV × List Tm),(t.zip (d.map Prod.fst))[g]?=some q->∃ h,d[g]?=some h/\h.1=q.2:=λg q hi=>by
     obtain⟨_,p⟩:=List.getElem?_zip_eq_some.1 hi;rw[List.getElem?_map] at p;exact Option.map_eq_some_iff.1 p
    have hn:n=(t.zip (d.map Prod.fst)).length:=V.symm;rw[hn]
    exact div_no6 o y b ad (t.zip (d.map Prod.fst)) k W U (S j.sa) (by rw[zip_fst O];exact j.row) Zo Zo (λq D=>by
     obtain⟨g,hi⟩:=List.mem_iff_getElem?.1 D;obtain⟨Y,R⟩:=List.getElem?_zip_eq_some.1 hi;obtain⟨h,L,I⟩:=am g q hi;have g5:=j.q g q.1 h Y L
     exact⟨j.kp C q D,λab Z=>(g5.b.b.lq ab (by rw[I];exact Z)).up Ze,g5.le⟩) (λg q hi D=>by
     obtain⟨h,L,I⟩:=am g q D;rw[<- I]
     exact F g hi h L) λq D=>by
     obtain⟨h,L,I⟩:=am k q D;rw[<- I];exact E h L
  ·refine je1 o y b n ad t (λg=>decide ((d[g]?.map Prod.fst).getD []≠[])) W U j.row (by rw[j.len,u]) Zo (λaz G=>Yc (j.sa.below G) Ze) (λg z s az G=>?_) (λg z s T az G=>?_) (λg z s T az G=>?_) ?_
   ·obtain⟨h,i⟩:=H j g z s;have c:=Yc ((j.q g z h s i).below G) Ze;rwa [C h (List.mem_of_getElem? i)] at c
   ·obtain⟨h,i⟩:=H j g z s;rw[i] at T;have c:=(j.q g z h s i).below G
    exact(Vw o z h.1 az c.ap (λab Z=>(c.b.b.lq ab Z).up Ze) c.le (of_decide_eq_true T)).mono λe w' ⟨y,ab,p,J,_,h7⟩=>⟨y,ab.1,ab.2,p,J,h7⟩
   ·obtain⟨h,i⟩:=H j g z s;rw[i] at T;have c:=(j.q g z h s i).below G;have p:h.1=[]:=Decidable.not_not.1 (of_decide_eq_false T);rw[p] at c;exact jlh o z az c.ap c.le
   ·obtain⟨g,h,c,p⟩:=s;exact⟨g,by have:=(List.getElem?_eq_some_iff.1 c).1;omega,by rw[c];exact zo λJ=>J p⟩
 have ar:(K.map Prod.fst).length=(d.map Prod.fst).length:=by rw[List.length_map,List.length_map,ak]
 have ax:∀ (g:Nat) (q:PV × List Tm),((K.map Prod.fst).zip (d.map Prod.fst))[g]?=some q->∃ (e:PV × List TO) (h:List Tm × Bool),K[g]?=some e/\d[g]?=some h/\e.1=q.1/\h.1=q.2:=λg q hi=>by
  obtain⟨c,p⟩:=List.getElem?_zip_eq_some.1 hi;rw[List.getElem?_map] at c p;obtain⟨e,Y,R⟩:=Option.map_eq_some_iff.1 c;obtain⟨h,L,I⟩:=Option.map_eq_some_iff.1 p;exact⟨e,h,Y,L,R,I⟩
 have ai:∀ q∈(K.map Prod.fst).zip (d.map Prod.fst),q.2≠[]:=λq D j=>by
  obtain⟨g,hi⟩:=List.mem_iff_getElem?.1 D;obtain⟨e,h,_,R,_,I⟩:=ax g q hi;exact s ⟨g,h,R,I.trans j⟩
 obtain⟨ds,ao,aC⟩:=ds_ex o _ ai;have af:ds.map Prod.snd=d.map Prod.fst:=ao.trans (jad ar)
 have ag:ds.length=n:=by rw[<- List.length_map (f:=Prod.snd (α:=Tm)),af,List.length_map,u]
 have an:U6 w o 8 x (tsOf aJ) P (LsOf K) ((K.map Prod.fst).zip (d.map Prod.fst)) ds:=⟨U,aD rfl,⟨by rw[List.length_zip,<- ar,Nat.min_self,List.length_map,List.length_map],λg q us aj aw=>by
   obtain⟨e,h,Y,R,L,I⟩:=ax g q aj;rw[List.getElem?_map,Y] at aw
   cases aw
   rw[<- L,<- I]
   exact(D g e h Y R).2 (C h (List.mem_of_getElem? R))⟩,ai,ao,aC⟩
 obtain⟨ac,μ,hP,h0,au,hJ⟩:=jll aH an aa;refine⟨P,true,d,0,n,λX=>ac X/\X.p=[],ae,⟨λX s' hs av=>?_,aF,λX hs=>?_,λW y b ad t j=>?_,λW y b ad t j=>?_⟩,u⟩
 ·obtain⟨_,g,e1⟩:=hJ X hs.1;obtain⟨_,aP,e2⟩:=hJ s' av.1;rw[e1,e2];exact jlg (by rw[<- e1];exact hs.2) (by rw[<- e2];exact av.2)
 ·obtain⟨Y,R,L⟩:=hP.lq X hs.1;obtain⟨I,g5,g6⟩:=hP.len X hs.1;exact⟨(hJ X hs.1).1.trans ag,λq D=>⟨g6 q D,λab Z=>(L q D ab Z).up Ze⟩,g5,λab Z=>(R ab Z).up Ze⟩
 ·have O:t.length=(d.map Prod.fst).length:=by rw[j.len,List.length_map]
  have V:n=(t.zip (d.map Prod.fst)).length:=by rw[List.length_zip,<- O,Nat.min_self,j.len,u]
  have ah:KP W y P:=j.sa.h.elim (λj=>j.2) λj=>by cases j.1
  have N:=divide_s o y P b ad (t.zip (d.map Prod.fst)) ds ac μ 11825 4 8 656 W U ah (by rw[zip_fst O];exact j.row) (j.kp C) (by rw[jad O];exact af) hP h0 Zo;rw[<- V] at N
  refine N.mono λe w' hr=>?_
  rcases hr with ⟨v,zs,r,X,E,F,c,p,J,h6,h7⟩ | ⟨X,ab,g,aK,_,F,c,p,J,_⟩
  ·obtain⟨va,vc,hv,-,-⟩:=OQ.row F;subst hv
   have ay:zs.length=n:=by rw[c,(hJ X J).1,ag]
   exact⟨⟨va,zs.length,vc⟩,r,zs,X,E,⟨J,h6⟩,ay,ay,F,p,h7⟩
  ·exact absurd J (au X ab g aK F c p)
 ·have O:t.length=(d.map Prod.fst).length:=by rw[j.len,List.length_map]
  have V:n=(t.zip (d.map Prod.fst)).length:=by rw[List.length_zip,<- O,Nat.min_self,j.len,u]
  have ah:KP W y P:=j.sa.h.elim (λj=>j.2) λj=>by cases j.1
  have N:=jlk o y P b ad (t.zip (d.map Prod.fst)) ds ac μ 11825 4 8 656 W U ah (by rw[zip_fst O];exact j.row) (j.kp C) (by rw[jad O];exact af) hP h0 Zo;rw[<- V] at N
  refine N.mono λe w' hr=>?_
  rcases hr with ⟨aO,m,aN,r,X,E,F,c,p,J,h6,h7,h8,h9⟩ | ⟨X,ab,g,aK,_,F,c,p,J,_⟩
  ·have aE:m=n:=c.trans ag;subst aE;refine⟨⟨some ⟨aO,0,none⟩,m,m⟩,r,(List.range m).map aN,X,E,⟨h7,h8⟩,rfl,by rw[List.length_map,List.length_range],RS.ofRowIs p,λg z q s aj=>?_,h6.k,h9⟩;rw[List.getElem?_map] at s;obtain⟨aP,hj,rfl⟩:=Option.map_eq_some_iff.1 s;have aq:=(List.getElem?_eq_some_iff.1 hj).1;rw[List.length_range] at aq;rw[List.getElem?_range aq] at hj
   cases hj
   exact(J _ q aj).k
  ·exact absurd J (au X ab g aK F c p)
end Pol
end Go.Proofs.YthacfgmdihcffaaGreatDoor
