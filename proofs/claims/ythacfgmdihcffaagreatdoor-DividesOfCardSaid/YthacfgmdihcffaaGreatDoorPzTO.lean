/-
  The walk of with of package polys: each term made into another one, whatever the closure; how great the numbers grow.
-/
import Derived.Test.YthacfgmdihcffaaGreatDoorPzTN
import Derived.Lib.IndexMore
set_option linter.unusedSimpArgs false
set_option linter.unusedVariables false
set_option maxHeartbeats 16000000
set_option maxRecDepth 100000
open Go.Proofs.Tryz
namespace Go.Proofs.YthacfgmdihcffaaGreatDoor
namespace Mono
open Go.RowKit Go.Sort
theorem jes (a:World) :
  Cl 100 #[] a λe d=>e=.returned (.map (some a.heap.size))/\Ords a.heap.size d/\Bl a d/\d.drawn=a.drawn:=by
 have h:=λ(i:TypeId) (a:World)=>run_makeMap (P:=prog) i a
 have j:=λ(o:Obj) v=>upd0 (X:=(a.alloc (.map #[] 0)).alloc o) (r:=a.heap.size) ((Below.heap_alloc _ o _ (by simp)).trans (Go.heap_alloc_new a _)) 1 v
 have k:=λ(f:Obj) c (g:Obj) v=>upd1 (X:=(putObj ((a.alloc (.map #[] 0)).alloc f) a.heap.size (.map #[⟨.int .u8 1,c,0⟩] 1)).alloc g) (r:=a.heap.size) (k1:=1) (v1:=c)
  ((Below.heap_alloc _ g _ (by rw[Xe];simp;omega)).trans (QS ((Below.heap_alloc _ f _ (by simp)).trans (Go.heap_alloc_new a _)))) 2 v rfl
 have b:=qh<|jip a;go_enter func100,ntmps100;go_wp2;go_ret;exact⟨rfl,b.o.1,b.o.2,rfl⟩
theorem jc3 (a b:Nat->Int) (f:World) :
  Cl 101 #[mvf a,mvf b] f λe d=>e=.returned (.int .i64 (Xn a b))/\Bl f d/\f.drawn<=d.drawn:=by
 have c:=qh<|boxes f 35 a b;go_enter func101,ntmps101;go_wp2;go_quiet (exact Calls.quiet_of_same (Kl _ _ _ _ a b _ (c.o.1.of_block rfl) (c.o.2.of_block rfl)));go_wp2;go_ret;exact⟨rfl,below_drewN (by go_grown) _,Nat.le_add_right _ _⟩
theorem cmp_lays (a b:Nat->Int) (l:World) :
  Cl 33 #[.int .u8 0,mvf a,mvf b] l λe t=>e=.returned (.int .i64 (Xn a b))/\Bl l t/\l.drawn<=t.drawn:=by
 have o:=qh<|boxes l 35 a b;go_enter func33,ntmps33;go_wp2_with fail
 refine(jes _).mono ?_;rintro e m ⟨rfl,f,c,h⟩;have j:=Ju o.o.1 c (by simp;omega);have k:=Ju o.o.2 c (by simp);have n:=qh (zk.alloc zj _ |>.alloc (by go_size) _ |>.trans (c.mono (by go_size)):Bl l m);have u:=qh (show l.drawn<=m.drawn by rw[h];exact zj);simp only[World.size_alloc] at f;have O:=qh f;have x:=look2 f.1 0;obtain⟨y,z,A,B⟩:=ZK j;obtain⟨G,H,I,J⟩:=ZK k;have p:=qh j;have r:=qh k;have g:=qh<|show l.heap.size+1+1+1+1<m.heap.size from block_lt_of_cell f.2.2.1;clear f c j k h;simp only[show((0:Int)==1)=false from rfl,show((0:Int)==2)=false from rfl,Bool.false_eq_true,if_false] at x;go_wp2_with fail
 refine wp_loop_rounds 1 ?_;rw[rounds_succ];go_wp2_with fail
 refine(jc3 a b _).mono ?_;rintro e P ⟨rfl,d,i⟩;have q:=qh<|Ju p.o d (Zh g);have s:=qh<|Ju r.o d (Zh g);have w:=qh<|n.o.trans (d.mono n.o.size);have v:=qh<|zm u.o i;obtain⟨C,D,E,F⟩:=ZK q.o;obtain⟨K,L,M,N⟩:=ZK s.o;clear d i;go_wp2;go_ret;exact⟨rfl,w.o,v.o⟩
end Mono
namespace Pol
open Go.RowKit Go.Sort Limb
def Mo.f (m:Mo) (i:Nat):Int:=match i with
 | 0=>m.x
 | 1=>m.y
 | 2=>m.z
 | _=>m.t
def Zz (a b:Mo):Int:=if a.lt b then -1 else if b.lt a then 1 else 0
theorem jks (a b:Mo):Mono.Xn a.f b.f=Zz a b:=by
 have e:Mono.Xn a.f b.f=(if (a.x:Int)≠b.x then (if (a.x:Int)<b.x then -1 else if (b.x:Int)<a.x then 1 else 0) else if (a.y:Int)≠b.y then (if (a.y:Int)<b.y then -1 else if (b.y:Int)<a.y then 1 else 0) else if (a.z:Int)≠b.z then (if (a.z:Int)<b.z then -1 else if (b.z:Int)<a.z then 1 else 0) else (if (a.t:Int)<b.t then -1 else if (b.t:Int)<a.t then 1 else 0)):=rfl;rw[e]
 rcases Mo.jd4 a b with c | c | c
 ·rw[Zz,if_pos c];unfold Mo.lt at c
  repeat' split
  all_goals omega
 ·subst c;rw[Zz,if_neg (Mo.lt_irrefl a),if_neg (Mo.lt_irrefl a)]
  repeat' split
  all_goals omega
 ·rw[Zz,if_neg (Mo.lt_asymm c),if_pos c];unfold Mo.lt at c
  repeat' split
  all_goals omega
theorem Ky {a b:Mo}:Zz a b<0↔a.lt b:=by
 unfold Zz;by_cases c:a.lt b
 ·simp[c]
 ·by_cases k:b.lt a <;> simp[c,k]
def Lays (w w':World):Prop:=Bl w w'/\w.drawn<=w'.drawn
theorem Lays.grow {b a:World} (l:Lays b a):∃ k i,a=grow (b.drewN k) i:=by
 obtain⟨⟨d,f,g,n,m⟩,o⟩:=l;refine⟨a.drawn-b.drawn,a.heap.extract b.heap.size a.heap.size,?_⟩
 have e:a.heap=b.heap++a.heap.extract b.heap.size a.heap.size:=by
  apply Array.ext_getElem?;intro j;rw[Array.getElem?_append];split
  ·rename_i h;exact m j h
  ·rename_i h;rw[Array.getElem?_extract];by_cases p:j<a.heap.size
   ·rw[if_pos Zo,show b.heap.size+(j-b.heap.size)=j by omega]
   ·rw[if_neg Zo,Array.getElem?_eq_none Zo]
 obtain⟨k,c⟩:∃ k,a.drawn=b.drawn+k:=⟨a.drawn-b.drawn,Zo⟩;rw[c,Nat.add_sub_cancel_left]
 cases b
 cases a
 simp only at d f g e c;subst d f g c;exact(congrArg (λl=>({ heap:=l,tape:=_,drawn:=_,os:=_,output:=_ }:World)) e).trans rfl
theorem cmp_lex (a b:Mo) (c:World):Cl 33 #[.int .u8 0,Mo.v a,Mo.v b] c λe d=>e=.returned (.int .i64 (Zz a b))/\Lays c d:=by
 rw[<- jks];exact Mono.cmp_lays a.f b.f c
theorem UU (a b:Mo) (h:World):Cl 113 #[Mo.v a,Mo.v b] h λe c=>e=.returned (.int .i64 (Zz b a))/\Lays h c:=by
 have k:=qh (λc=>cmp_lex b a c);go_enter func113,ntmps113;go_wp2_with fail
 with_reducible refine(k.o _).mono ?_
 rintro e g ⟨rfl,d,f⟩;have i:=qh<|show Bl h g from(zk.alloc zj _ |>.alloc (by go_size) _).trans (d.mono (by go_size));have j:=qh<|show h.drawn<=g.drawn from f;clear d f k;go_wp2;go_ret;exact⟨rfl,i.o,j.o⟩
theorem jcn (a b:Mo) (c:World):Cl 113 #[Mo.v a,Mo.v b] c λe d=>e=.returned (.int .i64 (Zz b a))/\Bl c d:=(UU a b c).mono λ_ _ f=>⟨f.1,f.2.1⟩
end Pol
namespace Limb
open Go.RowKit Go.Sort
theorem jdu (a:Rat):(a.num:Rat)/((a.den:Int):Rat)=a:=by
 rw[<- Rat.divInt_eq_div];exact Rat.num_divInt_den a
end Limb
namespace Pol
open Go.RowKit Go.Sort Limb
variable {w:World}
def Ok1 (L:List TO) (i:Nat):Prop:=∃ e q,L[i]?=some e/\e.2=some q/\q≠0/\(0<i->∃ d,L[i-1]?=some d/\e.1.m.lt d.1.m)
theorem q_num {b:Rat}:Js b.num 0=0↔b=0:=by
 rw[<- Rat.num_eq_zero];unfold Js;constructor
 ·intro a;split at a
  ·exact absurd a Ze
  ·split at a
   ·exact absurd a Ze
   ·omega
 ·intro a;rw[a];rfl
theorem jco (aN:PV) (ak:List TO) (Q:Nat) (w:World) (h:jcj w aN ak) (hn:aN.n<=1000000000) (hk:Q<=ak.length) (aF:∀ ad,ad<Q->Ok1 ak ad) (ao:Q<ak.length->¬Ok1 ak Q) :
  Cl 83 #[aN.v] w λe c=>e=.returned (.bool (decide (Q=ak.length)))/\Bl w c:=by
 obtain⟨xa,U,xc⟩:=aN;have D:=qh<|show ak.length=U from h.2.1;have HN:=qh<|show U<=1000000000 from hn;have HR:=qh h;have aH:=qh hk;have aj:=qh aF;have ae:=qh ao;have i:=qh<|Below.refl w.heap.size w;obtain⟨bv,aq⟩:=gn (decide (Q=ak.length));have ac:=qh aq;rw[<- aq];clear h hk aF ao hn aq;change Cl 83 #[.slice xa U xc] w _;go_enter func83,ntmps83;go_wp2;go_loopw [7] (λad wr=>∃ k:Nat,k<=Q/\ad=.int .i64 k/\Bl w wr) (λad _=>U-(intOf ad).toNat)
 case atStart=>exact⟨0,Nat.zero_le _,rfl,i.o⟩
 case round =>
  obtain⟨k,aE,rfl,aD⟩:=hrel;have i:=qh aD;have aa:=qh aE;clear aD aE;by_cases Y:k<U
  ·have j:=qh Y;obtain⟨S,T,rfl,aG,ar⟩:=(HR.o.below i.o).1.off (i:=k) (by rw[List.length_map,D.o];exact Y);obtain⟨e,he⟩:∃ e,ak[k]?=some e:=⟨_,List.getElem?_eq_getElem (by rw[D.o];exact Y)⟩;obtain⟨O,o⟩:=e;obtain⟨c0,c1,c2,c3,c4,c5,c6,c7⟩:=RT.eight ar (i:=k) (t:=O) (by rw[List.getElem?_map,he];rfl);have HE:=qh he;have H:=qh<|(HR.o.below i.o).2.2.2.1 _ (List.mem_of_getElem? he);have ai:=qh<|HR.o.2.2.2.2.2 _ (List.mem_of_getElem? he);have ax:=qh ar;have ab:=qh aG;obtain⟨R,av⟩:=gn (k:Int);clear ar he aG
   go_upto_region 4 with (fail)
   obtain⟨am,hV⟩:=gn (wr.alloc (.cells (cTv O.c O.m).toArray 37));have P:=bq hV (zk.alloc zj _);have B4:=qh<|al hV;obtain⟨A4,an⟩:=gn wr.heap.size;rw[<- hV,<- an];rw[<- an] at B4;rw[<- av];have i:=qk i P
   have H:=qh (show TO.ok am (O,o) from by
    have h:=H.o;unfold TO.ok at h ⊢
    cases o with
    | none=>exact BF.below h P
    | some q=>exact KF.below h P)
   have F:=qh<|Nat.lt_of_lt_of_le ab.o P.size;have V:=qh (λ(ad:Nat) (O:TV) (hi:(ak.map Prod.fst)[ad]?=some O) (M:Nat) (v:Value) (hj:O.cells[M]?=some v)=>(P.cell (p:=⟨S,T+ad*8+M,none⟩) ab.o).trans (ax.o ad O hi M v hj));have l:=qh av;clear hV P an av c0 c1 c2 c3 c4 c5 c6 c7 ax ab Y
   cases o with
   | none =>
    have f:=qh<|show BF am O.c from H.o
    have C:=qh (show false=bv by
     rw[ac.o];refine(zo λI=>?_).symm;obtain⟨e',q',L,h2,-⟩:=aj.o k (by rw[I,D.o];exact j.o);rw[HE.o] at L
     cases L
     cases h2)
    clear H V
    go_upto_region 4 with (fail)
    refine FS.Jd 25 [] (FS.JI [(2,FS.Sp.know (.bool false))])
     (λc=>Bl am c) Zk Zk Zk
     (FS.Jb (FS.Sp.Jk _ _) (FS.Jh)) (λ_ _ h b=>h.trans (b.mono h.size)) (zk.drew) ?_
    simp only[zu,zi,ze,zx,zy,zv,zw]
    iterate 2
     refine FS.rdw (λc a=>by obtain⟨m,n,r,s,t,u,x,y,z,A⟩:=(B4.o.bl a).d8;go_simp;try rfl) ?_
    refine FS.Jc rfl rfl rfl (λc d=>?_) ?_
    ·have a:=d.world;refine FS.Jm (FS.PK (.bool false)) ?_ (λ_ _ h=>h.post);go_simp;have g:=qcheckB (f.o.below a) ai.o;refine g.mono ?_;rintro e B ⟨rfl,b⟩;exact⟨_,rfl,rfl,b⟩
    rintro _ rfl
    conv=>arg 10;simp only[Act.put,zq0,zq1,zq2]
    iterate 2
     refine FS.rd0 ?_
    iterate 4
     refine FS.QZ (by rfl) rfl ?_
     conv=>arg 10;simp only[Act.put,zq0,zq1,zq2]
    iterate 2
     refine FS.rd0 ?_
    iterate 14
     refine FS.QZ (by rfl) rfl ?_
     conv=>arg 10;simp only[Act.put,zq0,zq1,zq2]
    refine FS.Jn (λaP b hF=>?_);clear hF;have f:=qh<|f.o.below b;have B4:=qh<|B4.o.bl b;have i:=qk i b;clear b;go_wp2;go_ret
    exact⟨by rw[C.o] <;> rfl,i.o⟩
   | some q =>
    have f:=qh<|show KF am O.c q from H.o;have G:=qh<|show LQ q 900000 from⟨by have L:O.c.t.n<=900000:=ai.o.1;have h2:=f.o.t.n;omega,by have L:O.c.l.n<=900000:=ai.o.2;have h2:=f.o.l.n;omega⟩;by_cases hq:q=0
    ·have W:=qh<|q_num.2 hq
     have C:=qh (show false=bv by
      rw[ac.o];refine(zo λI=>?_).symm;obtain⟨e',q',L,h2,h3,-⟩:=aj.o k (by rw[I,D.o];exact j.o);rw[HE.o] at L
      cases L
      cases h2
      exact h3 hq)
     clear H V hq
     go_upto_region 4 with (fail)
     refine FS.Jd 25 [] (FS.JI [(2,FS.Sp.know (.bool true)),(7,FS.Sp.know (.int .i64 0))])
      (λc=>Bl am c) Zk Zk Zk
      (FS.Jb (FS.Sp.Jk _ _) (FS.Jb (FS.Sp.Jk _ _) (FS.Jh))) (λ_ _ h b=>h.trans (b.mono h.size)) (zk.drew) ?_
     simp only[zu,zi,ze,zx,zy,zv,zw]
     iterate 2
      refine FS.rdw (λc a=>by obtain⟨m,n,r,s,t,u,x,y,z,A⟩:=(B4.o.bl a).d8;go_simp;try rfl) ?_
     refine FS.Jc rfl rfl rfl (λc d=>?_) ?_
     ·have a:=d.world;refine FS.Jm (FS.PK (.bool true)) ?_ (λ_ _ h=>h.post);go_simp;have g:=jea (f.o.below a) (((f.o.below a)).len G.o (by decide:_<=900000));refine g.mono ?_;rintro e B ⟨rfl,b⟩;exact⟨_,rfl,rfl,b⟩
     rintro _ rfl
     conv=>arg 10;simp only[Act.put,zq0,zq1,zq2]
     iterate 2
      refine FS.rd0 ?_
     iterate 2
      refine FS.rdg (λc a=>by obtain⟨m,n,r,s,t,u,x,y,z,A⟩:=(B4.o.bl a).d8;go_simp;try rfl) ?_
     refine FS.JJ (by rfl) rfl rfl (λc d=>?_) ?_
     ·have a:=d.world;refine FS.Jm (FS.PK (.int .i64 0)) ?_ (λ_ _ h=>h.post);go_simp;have g:=jhj ((f.o.below a)).any (((f.o.below a)).len G.o (by decide:_<=900000));rw[show Js q.num 0=0 from W.o] at g;refine g.mono ?_;rintro e B ⟨rfl,b⟩;exact⟨_,rfl,rfl,b⟩
     rintro _ rfl
     conv=>arg 10;simp only[Act.put,zq0,zq1,zq2]
     refine FS.rdz ?_
     iterate 2
      refine FS.rd0 ?_
     iterate 14
      refine FS.QZ (by rfl) rfl ?_
      conv=>arg 10;simp only[Act.put,zq0,zq1,zq2]
     refine FS.Jn (λaQ b hF=>?_);clear hF;have f:=qh<|f.o.below b;have B4:=qh<|B4.o.bl b;have i:=qk i b;clear b;go_wp2;go_ret;exact⟨by rw[C.o] <;> rfl,i.o⟩
    ·obtain⟨N,aw⟩:=gn (Js q.num 0);have W:=qh aw.symm
     have aU:(N==0)=false:=by
      rw[aw]
      simpa using λh=>hq (q_num.1 h)
     have HQ:=qh hq;clear aw hq H
     rcases Nat.eq_zero_or_pos k with h0 | h0
     ·have ah:=qh (show k<Q from Nat.lt_of_le_of_ne aa.o λI=>ae.o (by rw[<- I,D.o];exact j.o) (by rw[<- I];exact⟨_,q,HE.o,rfl,HQ.o,λh=>Zo⟩));have gk:decide (0<R)=false:=zo (Zh l);have aL:¬(0<R):=Zh l;clear h0 V
      go_upto_region 4 with (fail)
      refine FS.Jd 25 [] (FS.JI [(2,FS.Sp.know (.bool true)),(7,FS.Sp.know (.int .i64 N))])
       (λc=>Bl am c) Zk Zk Zk
       (FS.Jb (FS.Sp.Jk _ _) (FS.Jb (FS.Sp.Jk _ _) (FS.Jh))) (λ_ _ h b=>h.trans (b.mono h.size)) (zk.drew) ?_
      simp only[zu,zi,ze,zx,zy,zv,zw]
      iterate 2
       refine FS.rdw (λc a=>by obtain⟨m,n,r,s,t,u,x,y,z,A⟩:=(B4.o.bl a).d8;go_simp;try rfl) ?_
      refine FS.Jc rfl rfl rfl (λc d=>?_) ?_
      ·have a:=d.world;refine FS.Jm (FS.PK (.bool true)) ?_ (λ_ _ h=>h.post);go_simp;have g:=jea (f.o.below a) (((f.o.below a)).len G.o (by decide:_<=900000));refine g.mono ?_;rintro e B ⟨rfl,b⟩;exact⟨_,rfl,rfl,b⟩
      rintro _ rfl
      conv=>arg 10;simp only[Act.put,zq0,zq1,zq2]
      iterate 2
       refine FS.rd0 ?_
      iterate 2
       refine FS.rdg (λc a=>by obtain⟨m,n,r,s,t,u,x,y,z,A⟩:=(B4.o.bl a).d8;go_simp;try rfl) ?_
      refine FS.JJ (by rfl) rfl rfl (λc d=>?_) ?_
      ·have a:=d.world;refine FS.Jm (FS.PK (.int .i64 N)) ?_ (λ_ _ h=>h.post);go_simp;have g:=jhj ((f.o.below a)).any (((f.o.below a)).len G.o (by decide:_<=900000));rw[show Js q.num 0=N from W.o] at g;refine g.mono ?_;rintro e B ⟨rfl,b⟩;exact⟨_,rfl,rfl,b⟩
      rintro _ rfl
      conv=>arg 10;simp only[Act.put,zq0,zq1,zq2]
      refine FS.rdz ?_
      iterate 2
       refine FS.rd0 ?_
      iterate 3
       refine FS.rdz ?_
      iterate 10
       refine FS.QZ (by rfl) rfl ?_
       conv=>arg 10;simp only[Act.put,zq0,zq1,zq2]
      refine FS.rdz ?_;refine FS.Jn (λaR b hF=>?_);clear hF;have f:=qh<|f.o.below b;have B4:=qh<|B4.o.bl b;have i:=qk i b;clear b;have aI:IntKind.i64.wrap ((k:Int)+1)=(k:Int)+1:=IntWalk.i64_in _ (Zi j HN);have aJ:IntKind.i64.wrap (R+1)=R+1:=IntWalk.i64_in _ (by have:=l.o;have:=j.o;have:=HN.o;omega);go_wp2;go_roundw
      case rel=>exact⟨k+1,Zh ah,congrArg (Value.int .i64) (Zh l),i.o⟩
      case measure=>have:=l.o;have:=j.o;simp[intOf];omega
     ·obtain⟨M,hj⟩:∃ M,k=M+1:=⟨k-1,Zo⟩;have gk:decide (0<R)=true:=decide_eq_true (Zh l);have aL:0<R:=Zh l
      have ej:IntKind.i64.wrap (R-1)=(M:Int):=by have:=l.o;have:=j.o;have:=HN.o;rw[IntWalk.i64_in _ Zo];omega
      have ag:=qh (show M<U by have:=j.o;omega);have af:=qh hj;obtain⟨aO,hd⟩:∃ aO,ak[M]?=some aO:=⟨_,List.getElem?_eq_getElem (by rw[D.o];exact ag.o)⟩;obtain⟨Z,oj⟩:=aO;have HD:=qh hd;have X:=RT.eight (w:=am) V.o (i:=M) (t:=Z) (by rw[List.getElem?_map,hd];rfl);have az:=qh X.2.2.2.2.1;have aA:=qh X.2.2.2.2.2.1;have aB:=qh X.2.2.2.2.2.2.1;have aC:=qh X.2.2.2.2.2.2.2;obtain⟨K,au⟩:=gn (Zz O.m Z.m);have ay:=qh au.symm;clear hd X V h0 hj;by_cases J:O.m.lt Z.m
      ·have gf:decide (0<=K)=false:=zo (by have:=Ky.2 J;omega)
       have aK:¬(0<=K):=by have:=Ky.2 J;omega
       have ah:=qh (show k<Q from Nat.lt_of_le_of_ne aa.o λI=>ae.o (by rw[<- I,D.o];exact j.o) (by rw[<- I];exact⟨_,q,HE.o,rfl,HQ.o,λ_=>⟨_,by rw[af.o];exact HD.o,J⟩⟩));clear au J
       go_upto_region 4 with (fail)
       refine FS.Jd 25 [] (FS.JI [(2,FS.Sp.know (.bool true)),(7,FS.Sp.know (.int .i64 N)),(22,FS.Sp.know (.int .i64 K))])
        (λc=>Bl am c) Zk Zk Zk
        (FS.Jb (FS.Sp.Jk _ _) (FS.Jb (FS.Sp.Jk _ _) (FS.Jb (FS.Sp.Jk _ _) (FS.Jh)))) (λ_ _ h b=>h.trans (b.mono h.size)) (zk.drew) ?_
       simp only[zu,zi,ze,zx,zy,zv,zw]
       iterate 2
        refine FS.rdw (λc a=>by obtain⟨m,n,r,s,t,u,x,y,z,A⟩:=(B4.o.bl a).d8;go_simp;try rfl) ?_
       refine FS.Jc rfl rfl rfl (λc d=>?_) ?_
       ·have a:=d.world;refine FS.Jm (FS.PK (.bool true)) ?_ (λ_ _ h=>h.post);go_simp;have g:=jea (f.o.below a) (((f.o.below a)).len G.o (by decide:_<=900000));refine g.mono ?_;rintro e B ⟨rfl,b⟩;exact⟨_,rfl,rfl,b⟩
       rintro _ rfl
       conv=>arg 10;simp only[Act.put,zq0,zq1,zq2]
       iterate 2
        refine FS.rd0 ?_
       iterate 2
        refine FS.rdg (λc a=>by obtain⟨m,n,r,s,t,u,x,y,z,A⟩:=(B4.o.bl a).d8;go_simp;try rfl) ?_
       refine FS.JJ (by rfl) rfl rfl (λc d=>?_) ?_
       ·have a:=d.world;refine FS.Jm (FS.PK (.int .i64 N)) ?_ (λ_ _ h=>h.post);go_simp;have g:=jhj ((f.o.below a)).any (((f.o.below a)).len G.o (by decide:_<=900000));rw[show Js q.num 0=N from W.o] at g;refine g.mono ?_;rintro e B ⟨rfl,b⟩;exact⟨_,rfl,rfl,b⟩
       rintro _ rfl
       conv=>arg 10;simp only[Act.put,zq0,zq1,zq2]
       refine FS.rdz ?_
       iterate 2
        refine FS.rd0 ?_
       iterate 11
        refine FS.rdg (λc a=>by have aM:M<U:=ag.o;have E:Bl am c:=a;have e4:=(E.cell (p:=⟨S,T+M*8+4,none⟩) F.o).trans az.o;have e5:=(E.cell (p:=⟨S,T+M*8+5,none⟩) F.o).trans aA.o;have e6:=(E.cell (p:=⟨S,T+M*8+6,none⟩) F.o).trans aB.o;have e7:=(E.cell (p:=⟨S,T+M*8+7,none⟩) F.o).trans aC.o;obtain⟨m,n,r,s,t,u,x,y,z,A⟩:=(B4.o.bl a).d8;go_simp;try rfl) ?_
       refine FS.JJ (by rfl) rfl rfl (λc d=>?_) ?_
       ·have a:=d.world;refine FS.Jm (FS.PK (.int .i64 K)) ?_ (λ_ _ h=>h.post);go_simp;have g:=jcn Z.m O.m c;rw[show Zz O.m Z.m=K from ay.o] at g;refine g.mono ?_;rintro e B ⟨rfl,b⟩;exact⟨_,rfl,rfl,b⟩
       rintro _ rfl
       conv=>arg 10;simp only[Act.put,zq0,zq1,zq2]
       iterate 2
        refine FS.rdz ?_
       refine FS.Jn (λaS b hF=>?_);clear hF;have f:=qh<|f.o.below b;have B4:=qh<|B4.o.bl b;have i:=qk i b;clear b;have aI:IntKind.i64.wrap ((k:Int)+1)=(k:Int)+1:=IntWalk.i64_in _ (Zi j HN);have aJ:IntKind.i64.wrap (R+1)=R+1:=IntWalk.i64_in _ (by have:=l.o;have:=j.o;have:=HN.o;omega);go_wp2;go_roundw
       case rel=>exact⟨k+1,Zh ah,congrArg (Value.int .i64) (Zh l),i.o⟩
       case measure=>have:=l.o;have:=j.o;simp[intOf];omega
      ·have h5:¬Zz O.m Z.m<0:=λh=>J (Ky.1 h)
       have gf:decide (0<=K)=true:=decide_eq_true Zo;have aK:0<=K:=Zo;clear h5
       have C:=qh (show false=bv by
        rw[ac.o];refine(zo λI=>?_).symm;obtain⟨e',q',L,h2,h3,h4⟩:=aj.o k (by rw[I,D.o];exact j.o);obtain⟨d',h5,h6⟩:=h4 (Zh af);rw[HE.o] at L
        cases L
        rw[show k-1=M by have:=af.o;omega,HD.o] at h5
        cases h5
        exact J h6)
       clear au J
       go_upto_region 4 with (fail)
       refine FS.Jd 25 [] (FS.JI [(2,FS.Sp.know (.bool true)),(7,FS.Sp.know (.int .i64 N)),(22,FS.Sp.know (.int .i64 K))])
        (λc=>Bl am c) Zk Zk Zk
        (FS.Jb (FS.Sp.Jk _ _) (FS.Jb (FS.Sp.Jk _ _) (FS.Jb (FS.Sp.Jk _ _) (FS.Jh)))) (λ_ _ h b=>h.trans (b.mono h.size)) (zk.drew) ?_
       simp only[zu,zi,ze,zx,zy,zv,zw]
       iterate 2
        refine FS.rdw (λc a=>by obtain⟨m,n,r,s,t,u,x,y,z,A⟩:=(B4.o.bl a).d8;go_simp;try rfl) ?_
       refine FS.Jc rfl rfl rfl (λc d=>?_) ?_
       ·have a:=d.world;refine FS.Jm (FS.PK (.bool true)) ?_ (λ_ _ h=>h.post);go_simp;have g:=jea (f.o.below a) (((f.o.below a)).len G.o (by decide:_<=900000));refine g.mono ?_;rintro e B ⟨rfl,b⟩;exact⟨_,rfl,rfl,b⟩
       rintro _ rfl
       conv=>arg 10;simp only[Act.put,zq0,zq1,zq2]
       iterate 2
        refine FS.rd0 ?_
       iterate 2
        refine FS.rdg (λc a=>by obtain⟨m,n,r,s,t,u,x,y,z,A⟩:=(B4.o.bl a).d8;go_simp;try rfl) ?_
       refine FS.JJ (by rfl) rfl rfl (λc d=>?_) ?_
       ·have a:=d.world;refine FS.Jm (FS.PK (.int .i64 N)) ?_ (λ_ _ h=>h.post);go_simp;have g:=jhj ((f.o.below a)).any (((f.o.below a)).len G.o (by decide:_<=900000));rw[show Js q.num 0=N from W.o] at g;refine g.mono ?_;rintro e B ⟨rfl,b⟩;exact⟨_,rfl,rfl,b⟩
       rintro _ rfl
       conv=>arg 10;simp only[Act.put,zq0,zq1,zq2]
       refine FS.rdz ?_
       iterate 2
        refine FS.rd0 ?_
       iterate 11
        refine FS.rdg (λc a=>by have aM:M<U:=ag.o;have E:Bl am c:=a;have e4:=(E.cell (p:=⟨S,T+M*8+4,none⟩) F.o).trans az.o;have e5:=(E.cell (p:=⟨S,T+M*8+5,none⟩) F.o).trans aA.o;have e6:=(E.cell (p:=⟨S,T+M*8+6,none⟩) F.o).trans aB.o;have e7:=(E.cell (p:=⟨S,T+M*8+7,none⟩) F.o).trans aC.o;obtain⟨m,n,r,s,t,u,x,y,z,A⟩:=(B4.o.bl a).d8;go_simp;try rfl) ?_
       refine FS.JJ (by rfl) rfl rfl (λc d=>?_) ?_
       ·have a:=d.world;refine FS.Jm (FS.PK (.int .i64 K)) ?_ (λ_ _ h=>h.post);go_simp;have g:=jcn Z.m O.m c;rw[show Zz O.m Z.m=K from ay.o] at g;refine g.mono ?_;rintro e B ⟨rfl,b⟩;exact⟨_,rfl,rfl,b⟩
       rintro _ rfl
       conv=>arg 10;simp only[Act.put,zq0,zq1,zq2]
       iterate 2
        refine FS.rdz ?_
       refine FS.Jn (λaT b hF=>?_);clear hF;have i:=qk i b;clear b;go_wp2;go_ret;exact⟨by rw[C.o] <;> rfl,i.o⟩
  ·have C:=qh (show true=bv by
    rw[ac.o]
    exact(decide_eq_true (by have:=aa.o;have:=aH.o;have:=D.o;omega)).symm)
   have aV:¬((k:Int)<(U:Int)):=Zo;clear Y;go_wp2;go_ret;exact⟨by rw[C.o] <;> rfl,i.o⟩
theorem ZW:∀ {L:List TO} {g:List Tm},vals L=some g↔g.length=L.length/\∀ (f:Nat) (e:TO),L[f]?=some e->∃ h,e.2=some h/\g[f]?=some (e.1.m,h)
 | [],g=>by
  unfold vals;constructor
  ·intro b;obtain rfl:[]=g:=Option.some.inj b;exact⟨rfl,λf e b=>by simp at b⟩
  ·rintro⟨b,-⟩
   rw[List.length_eq_zero_iff.1 b]
 | (t,o) :: r,g=>by
  unfold vals;constructor
  ·intro b
   cases o with
   | none=>simp at b
   | some h =>
    cases a:vals r with
    | none=>simp[a] at b
    | some k =>
     simp only[a,Option.some.injEq] at b;subst b;obtain⟨i,c⟩:=(ZW (L:=r)).1 a;refine⟨by rw[List.length_cons,List.length_cons,i],λf e d=>?_⟩
     cases f with
     | zero =>
      obtain rfl:(t,some h)=e:=by simpa using d
      exact⟨h,rfl,rfl⟩
     | succ f=>exact c f e (by simpa using d)
  ·rintro⟨i,c⟩;obtain⟨h,j,l⟩:=c 0 (t,o) rfl;have j:o=some h:=j;subst j
   obtain⟨m,k,rfl⟩:∃ m k,g=m :: k:=by
    cases g with
    | nil=>simp at l
    | cons m k=>exact⟨m,k,rfl⟩
   obtain rfl:m=(t.m,h):=by simpa using l
   have a:vals r=some k:=(ZW (L:=r)).2 ⟨by simpa using i,λf e d=>c (f+1) e (by simpa using d)⟩;simp[a]
theorem UW (s:List TO):okP s↔∀ a,a<s.length->Ok1 s a:=by
 constructor
 ·rintro⟨f,n,A⟩ a d;obtain⟨i,c⟩:=ZW.1 n;obtain⟨e,b⟩:∃ e,s[a]?=some e:=⟨_,List.getElem?_eq_getElem d⟩;obtain⟨v,h,k⟩:=c a e b;refine⟨e,v,b,h,A.non _ (List.mem_of_getElem? k),λT=>?_⟩;obtain⟨t,l⟩:∃ t,s[a-1]?=some t:=⟨_,List.getElem?_eq_getElem Zo⟩;obtain⟨W,Q,z⟩:=c (a-1) t l;refine⟨t,l,?_⟩;obtain⟨D,F⟩:=List.getElem?_eq_some_iff.1 k;obtain⟨E,G⟩:=List.getElem?_eq_some_iff.1 z;have j:=List.pairwise_iff_getElem.1 A.falls (a-1) a E D Zo;rw[F,G] at j;exact j
 ·intro x
  have k:∃ f,vals s=some f:=by
   have:∀ C:List TO,(∀ e∈C,e.2≠none)->∃ f,vals C=some f:=by
    intro C
    induction C with
    | nil=>exact λ_=>⟨[],rfl⟩
    | cons e r ih =>
     intro y
     obtain⟨V,J⟩:=ih λe b=>y e (List.mem_cons_of_mem _ b)
     obtain⟨O,o⟩:=e
     cases o with
     | none=>exact absurd rfl (y (O,none) (List.mem_cons_self ..))
     | some v=>exact⟨(O.m,v) :: V,by unfold vals;simp[J]⟩
   refine this s λe b=>?_
   obtain⟨a,d,rfl⟩:=List.getElem_of_mem b;obtain⟨S,v,i,c,-⟩:=x a d;rw[List.getElem?_eq_getElem d] at i
   cases i
   rw[c]
   exact λx=>by cases x
  obtain⟨f,n⟩:=k;obtain⟨i,c⟩:=ZW.1 n;refine⟨f,n,⟨?_,λO K=>?_⟩⟩
  ·have step:∀ a,(d:a+1<f.length)->f[a+1].1.lt (f[a]'(by omega)).1:=by
    intro a d;obtain⟨e,v,b,h,-,I⟩:=x (a+1) Zo;obtain⟨t,l,B⟩:=I Zo;obtain⟨N,q,g⟩:=c (a+1) e b;obtain⟨X,R,p⟩:=c (a+1-1) t l;rw[Nat.add_sub_cancel] at p;rw[(List.getElem?_eq_some_iff.1 g).2,(List.getElem?_eq_some_iff.1 p).2];exact B
   rw[List.pairwise_iff_getElem];intro a M d U P
   have H:∀ u,(m:a+1+u<f.length)->(f[a+1+u]).1.lt (f[a]).1:=by
    intro u
    induction u with
    | zero=>exact λm=>step a m
    | succ u ih=>exact λm=>Mo.lt_trans (step (a+1+u) m) (ih Zo)
   have j:=H (M-a-1) Zo
   simpa only[show a+1+(M-a-1)=M by omega] using j
  ·obtain⟨a,d,rfl⟩:=List.getElem_of_mem K;obtain⟨e,v,b,h,L,-⟩:=x a Zo;obtain⟨N,q,g⟩:=c a e b;rw[(List.getElem?_eq_some_iff.1 g).2];rw[q] at h
   cases h
   exact L
theorem Kh {i:PV} {k:List Tm} (d:KP w i k) (p:∀ t∈k,LQ t.2 900000) (o:i.n<=1000000000):Cl 83 #[i.v] w λe q=>e=.returned (.bool true)/\Bl w q:=by
 obtain⟨j,l,m,g,c⟩:=d.ex
 have n:jcj w i (j.map λe=>(e.1,some e.2)):=by
  refine⟨by rw[List.map_map];exact l,by rw[List.length_map];exact m,d.le,λe a=>?_,λe a=>?_,λe a=>?_⟩
  ·obtain⟨f,b,rfl⟩:=List.mem_map.1 a;exact g f b
  ·obtain⟨f,b,rfl⟩:=List.mem_map.1 a;exact d.small (tm f) (by rw[<- c];exact List.mem_map_of_mem b)
  ·obtain⟨f,b,rfl⟩:=List.mem_map.1 a;exact(g f b).len (p (tm f) (by rw[<- c];exact List.mem_map_of_mem b)) zj
 have h:okP (j.map λe=>(e.1,some e.2)):=by
  refine⟨k,?_,d.canon⟩;rw[ZW];refine⟨by rw[<- c,List.length_map,List.length_map],λs e a=>?_⟩;rw[List.getElem?_map] at a
  cases hk:j[s]? with
  | none=>rw[hk] at a;cases a
  | some f =>
   rw[hk] at a
   obtain rfl:(f.1,some f.2)=e:=by simpa using a
   exact⟨f.2,rfl,by rw[<- c,List.getElem?_map,hk];rfl⟩
 have r:=jco i _ (j.map λe=>(e.1,some e.2)).length w n o zj ((UW _).1 h) (λd=>absurd d Zo);rwa [decide_eq_true rfl] at r
theorem ji9 {j:PV} (p:BP w j) (i:j.n<=1000000000):Cl 83 #[j.v] w λe m=>e=.returned (.bool false)/\Bl w m:=by
 obtain⟨f,l,h⟩:=p;rw[UW] at h
 have first:∀ n,n<=f.length->(∀ d,d<n->Ok1 f d)\/∃ b,b<n/\(∀ d,d<b->Ok1 f d)/\¬Ok1 f b:=by
  intro n
  induction n with
  | zero=>exact λ_=>Or.inl λd g=>Zo
  | succ n ih =>
   intro i
   rcases ih Zo with a | ⟨b,a,c⟩
   ·by_cases c:Ok1 f n
    ·exact Or.inl λd g=>(Nat.lt_or_eq_of_le (Nat.le_of_lt_succ g)).elim (a d) (λe=>e▸c)
    ·exact Or.inr ⟨n,Zo,a,c⟩
   ·exact Or.inr ⟨b,Zo,c⟩
 rcases first f.length zj with a | ⟨b,a,c,k⟩
 ·exact absurd a h
 ·have o:=jco j f b w l i (Nat.le_of_lt a) c (λ_=>k);rwa [zo Zo] at o
theorem of_k {b:PV} {i:List Tm} (j:KP w b i) (f:∀ k∈i,LQ k.2 900000) (d:b.n<=1000000000):Cl 30 #[b.v] w λe g=>e=.returned b.v/\Bl w g:=by
 have h:=qh<|Kh j f d;go_enter func30,ntmps30;go_wp2_with fail
 refine h.o.mono ?_;rintro e l ⟨rfl,a⟩;have c:=qh a;clear a h;go_wp2;go_ret;exact⟨rfl,c.o⟩
theorem of_b {f:PV} (h:BP w f) (c:f.n<=1000000000):Cl 30 #[f.v] w λe d=>e=.returned (.slice none 0 0)/\Bl w d:=by
 have g:=qh<|ji9 h c;go_enter func30,ntmps30;go_wp2_with fail
 refine g.o.mono ?_;rintro e i ⟨rfl,a⟩;have b:=qh a;clear a g;go_wp2;go_ret;exact⟨rfl,b.o⟩
theorem XM {g:PV} {h:List Tm} (d:AP w g h) (i:∀ k∈h,LQ k.2 900000) (f:g.n<=1000000000):Cl 30 #[g.v] w λe b=>∃ j:PV,e=.returned j.v/\KP b j h/\j.n<=g.n/\Bl w b:=by
 rcases d with d | ⟨d,rfl⟩
 ·exact(of_k d i f).mono λe b ⟨c,a⟩=>⟨g,c,d.below a,zj,a⟩
 ·exact(of_b d f).mono λe b ⟨c,a⟩=>⟨⟨none,0,0⟩,c,KP.nil _ _ _,Nat.zero_le _,a⟩
theorem jf4 {f:Mo} (g:f.Small) (h:Nat):f.at h<=65535:=by
 obtain⟨a,b,c,d⟩:=g;unfold Mo.at;split
 ·exact a
 ·split
  ·exact b
  ·split
   ·exact c
   ·exact d
end Pol
namespace Pol
open Limb
variable {w:World} {b c cap g i lo n s:Nat} {K L d:List TE}
theorem jcp {a:List Tm} (h:Canon a):Qt 1 a=a:=Qc (QY _ _) h λf=>by rw[ZM,Rat.one_mul]
open Go.RowKit Go.Sort
instance:Inhabited TV:=⟨⟨⟨⟨false,none,0,0⟩,⟨false,none,0,0⟩⟩,Mo.one⟩⟩
def cfT (e f:TE):Int:=Zz f.1.m e.1.m
theorem ltT (e f:TE):ltOf cfT e f=decide (f.1.m.lt e.1.m):=by
 unfold ltOf cfT;by_cases a:f.1.m.lt e.1.m
 ·rw[decide_eq_true a,decide_eq_true (Ky.2 a)]
 ·rw[zo a,zo λk=>a (Ky.1 k)]
theorem swoT:SWO (ltOf cfT) where
 irrefl x:=by rw[ltT];exact zo (Mo.lt_irrefl _)
 trans x y z h1 h2:=by
  rw[ltT,decide_eq_true_eq] at *;exact Mo.lt_trans h2 h1
 ntrans x y z h1 h2:=by
  rw[ltT,decide_eq_false_iff_not] at *;intro f
  rcases Mo.jd4 y.1.m x.1.m with a | a | a
  ·exact h1 a
  ·rw[a] at h2;exact h2 f
  ·exact h2 (Mo.lt_trans f a)
def YK (e:TE):List Value:=e.1.cells
theorem jkt (a f:TV) (l:World):Cl 112 #[.agg (TV.cells a).toArray,.agg (TV.cells f).toArray] l λe h=>e=.returned (.int .i64 (Zz f.m a.m))/\Lays l h:=by
 have q:=qh (λh=>UU a.m f.m h);show Cl 112 #[.agg #[.bool a.c.t.s,.slice a.c.t.a a.c.t.n a.c.t.c,.bool a.c.l.s,.slice a.c.l.a a.c.l.n a.c.l.c,.int .u16 a.m.x,.int .u16 a.m.y,.int .u16 a.m.z,.int .u16 a.m.t],.agg #[.bool f.c.t.s,.slice f.c.t.a f.c.t.n f.c.t.c,.bool f.c.l.s,.slice f.c.l.a f.c.l.n f.c.l.c,.int .u16 f.m.x,.int .u16 f.m.y,.int .u16 f.m.z,.int .u16 f.m.t]] l _;go_enter func112,ntmps112;go_wp2_with fail
 with_reducible refine(q.o _).mono ?_
 rintro e m ⟨rfl,j,k⟩;have o:=qh<|show Bl l m from(zk.alloc zj _ |>.alloc (by go_size) _).trans (j.mono (by go_size));have p:=qh<|show l.drawn<=m.drawn from k;clear j k q;go_wp2;go_ret;exact⟨rfl,o.o,p.o⟩
theorem jku (blk off a:Nat) (k:World):CmpLays prog 112 #[] YK 8 cfT blk off a k :=
 λo j h _ l m=>(jkt l.1 m.1 _).mono λ_ _ f=>⟨f.1,f.2.grow⟩
theorem UX (f:Array TE):(flatK YK 8 f).toList=(f.toList.map Prod.fst).flatMap TV.cells:=by
 apply List.ext_getElem?;intro a
 have m:((f.toList.map Prod.fst).flatMap TV.cells).length=f.size*8:=by rw[Y1,List.length_map,Array.length_toList]
 by_cases l:a<f.size*8
 ·have k:a/8<f.size:=Zo
  have h:=flat_get (f.toList.map Prod.fst) (a/8) (a%8) f[a/8]!.1 (by
   rw[List.getElem?_map,Array.getElem?_toList,Array.getElem?_eq_getElem k,getElem!_pos f _ k]
   rfl) (Nat.mod_lt _ Zo)
  rw[show a/8*8+a%8=a by omega] at h;rw[h,Array.getElem?_toList];unfold flatK;rw[Array.getElem?_map,Array.getElem?_range,if_pos l];show some (YK f[a/8]!)[a%8]! = _;have j:a%8<(YK f[a/8]!).length:=Nat.mod_lt _ Zo;rw[getElem!_pos (YK f[a/8]!) _ j];exact(List.getElem?_eq_getElem j).symm
 ·rw[List.getElem?_eq_none (by rw[Array.length_toList,size_flatK];omega),List.getElem?_eq_none (by rw[m];omega)]
theorem OT.holds (v:OT w lo (.slice (some ⟨g,0,none⟩) d.length cap) (d.map Prod.fst)) (t:0<d.length):HoldsK YK 8 w g 0 d.toArray/\g<w.heap.size:=by
 rcases v.2 with ⟨h,x⟩ | ⟨u,o,k,h,_,hg,r,_,q,f⟩
 ·cases h
 ·simp only[Value.slice.injEq,Option.some.injEq,Addr.mk.injEq,and_true,List.length_map,true_and] at h;obtain⟨rfl,rfl⟩:=h;refine⟨λm a=>?_,lt_of_block hg⟩
  have a:m<d.length*8:=by rw[size_flatK] at a;simpa using a
  have p:(flatK YK 8 d.toArray)[m]?=k[m]?:=by
   have l:=congrArg (λy=>y[m]?) f;rw[List.getElem?_take,List.length_map,if_pos a,Array.getElem?_toList] at l;rw[l,<- Array.getElem?_toList,UX]
  have j:m<(flatK YK 8 d.toArray).size:=by rw[size_flatK];simpa using a
  refine⟨?_,?_⟩
  ·rw[cell_of_row _ _ _ _ _ _ hg,Nat.zero_add,<- p,Array.getElem?_eq_getElem j,getElem!_pos (flatK YK 8 d.toArray) _ j];rfl
  ·simp only[World.frozen?,hg];simp
theorem SortedIn.pair {h:Array TE} (m:SortedIn (ltOf cfT) 0 h.size h):h.toList.Pairwise (λe f=>¬e.1.m.lt f.1.m):=by
 rw[List.pairwise_iff_getElem];intro i o k a l;rw[Array.length_toList] at k a;have j:=m i o (Nat.zero_le _) l a;rw[ltT,decide_eq_false_iff_not,getElem!_pos h _ k,getElem!_pos h _ a] at j;rw[Array.getElem_toList,Array.getElem_toList];exact j
theorem ja7 {n:Nat} {a:Array TE} {os:Array Obj} (B:OT w lo (.slice (some ⟨g,0,none⟩) d.length cap) (d.map Prod.fst)) (r:a.size=d.length) :
  OT (sortWorldK YK 8 w g 0 n a os) lo (.slice (some ⟨g,0,none⟩) d.length cap) (a.toList.map Prod.fst)/\Only g w (sortWorldK YK 8 w g 0 n a os):=by
 rcases B.2 with ⟨m,F⟩ | ⟨E,A,j,m,x,hg,h,t,o,z⟩
 ·cases m
 ·simp only[Value.slice.injEq,Option.some.injEq,Addr.mk.injEq,and_true,List.length_map,true_and] at m;obtain⟨rfl,rfl⟩:=m;have v:=lt_of_block hg
  have f:∀ k,k<w.heap.size->(sortWorldK YK 8 w g 0 n a os).heap[k]?=if k=g then some (.cells (putCells id 0 (flatK YK 8 a) j) 37 (0,0)) else w.heap[k]?:=by
   intro k q;show((w.heap.modify g _)++os)[k]?=_;rw[Array.getElem?_append_left (by rw[Array.size_modify];exact q),Array.getElem?_modify];by_cases e:g=k
   ·subst e;rw[if_pos rfl,if_pos rfl,hg];rfl
   ·rw[if_neg e,if_neg (λB=>e B.symm)]
  have l:(a.toList.map Prod.fst).length=d.length:=by rw[List.length_map,Array.length_toList,r]
  refine⟨⟨by rw[Y1],.inr ⟨g,cap,putCells id 0 (flatK YK 8 a) j,by rw[l],x,by rw[f g v,if_pos rfl],by rw[l];rw[List.length_map] at h;exact h,t,by unfold putCells;rw[Array.size_mapIdx];exact o,?_⟩⟩,rfl,rfl,rfl,?_,λk q y=>by rw[f k q,if_neg y]⟩
  ·rw[<- UX];apply List.ext_getElem?;intro D;rw[List.getElem?_take,l];by_cases p:D<d.length*8
   ·have C:D<j.size:=by
     rw[o];rw[List.length_map] at h;have:=Nat.mul_le_mul_right 8 h;omega
    have u:D<(flatK YK 8 a).size:=by rw[size_flatK,r];exact p
    rw[if_pos p,Array.getElem?_toList,Array.getElem?_toList];unfold putCells;rw[Array.getElem?_mapIdx,Array.getElem?_eq_getElem C,Option.map_some,if_pos ⟨Nat.zero_le _,Zo⟩,Nat.sub_zero,Array.getElem?_eq_getElem u,getElem!_pos (flatK YK 8 a) _ u];rfl
   ·rw[if_neg p,List.getElem?_eq_none];rw[Array.length_toList,size_flatK,r];omega
  ·show w.heap.size<=((w.heap.modify g _)++os).size;rw[Array.size_append,Array.size_modify];omega
theorem sort_any (E A k:Nat) (a:List TE) (p:World) (I:OT p E (.slice (some ⟨A,0,none⟩) a.length k) (a.map Prod.fst)) (u:0<a.length) (h:a.length<4611686018427387904) :
  Cl 111 #[.slice (some ⟨A,0,none⟩) a.length k,.func (.func 112) #[] #[]] p λe z=>e=.returned (.tuple #[])/\∃ j:List TE,j.Perm a/\j.Pairwise (λe f=>¬e.1.m.lt f.1.m) /\
   OT z E (.slice (some ⟨A,0,none⟩) a.length k) (j.map Prod.fst)/\Only A p z:=by
 have B:∀ l p,(callFunc 112 l).run prog p=.ok (.enter 112 l) p:=enters_of func112 Zk rfl;have q:=OT.holds I u;have m:Lib.bitLen a.length<4611686018427387904:=Nat.lt_of_le_of_lt (Lib.bitLen_le a.length 62 Zo Zo) Zo
 have o:=AnyQ.pdqsortCmpFunc_all (P:=prog) (ρ:=Tryz.sortT_ren) Tryz.sortT 8 isAgg37 sizeOf37 YK cfT 112 #[] swoT A 0 k a.toArray p B (jku A 0 a.toArray.size p)
  ⟨λ_=>rfl,λO v D=>by
   simp only[YK,TV.cells,List.mem_cons,List.mem_nil_iff,or_false] at D
   rcases D with rfl | rfl | rfl | rfl | rfl | rfl | rfl | rfl <;> rfl,q.1,q.2⟩ (a.toArray.size+1) 0 a.toArray.size (Lib.bitLen a.length) a.toArray p Zo rfl (SWK.start q.1) (Nat.zero_le _) zj (by rw[List.size_toArray];exact h) m (Or.inl rfl)
 rw[List.size_toArray] at o;change Cl 172 _ _ _ at o;have y:=Tryz.bits_Len (a.length:Int) p Zo Zo;rw[Int.toNat_natCast] at y;have r:=pdq_sorts (ltOf cfT) swoT a.toArray 0 a.toArray.size (Lib.bitLen a.length) true true (Nat.zero_le _) zj (Or.inl rfl);rw[List.size_toArray] at r;obtain⟨j,t⟩:=gn (pdq (ltOf cfT) a.toArray 0 a.length (Lib.bitLen a.length) true true);rw[<- t] at o r
 have wr:IntKind.u64.wrap (a.length:Int)=a.length:=by simp[IntKind.wrap,IntKind.bits,IntKind.signed];omega
 have x:=qh r;have G:=qh I;have H:=qh o;have HL:=qh y;clear r q I t o y B m h u;go_enter func111,ntmps111;go_wp2_with fail
 refine HL.o.mono ?_;rintro e z ⟨rfl,rfl⟩;go_wp2_with fail
 refine H.o.mono ?_;rintro e N ⟨rfl,n,F,rfl⟩;go_wp2_with fail
 go_end0;have h:j.size=a.length:=x.o.1.1;obtain⟨J,M⟩:=ja7 (n:=n) (os:=F) G.o h;refine⟨rfl,j.toList,?_,SortedIn.pair (by rw[h];exact x.o.2),J,M⟩;have C:=x.o.1.2.2;rw[show j.extract 0 a.length=j by rw[<- h];simp,show a.toArray.extract 0 a.length=a.toArray by simp] at C;exact C
theorem jkv (p:Option Addr) (a:Nat) (j:Value) (q:World) :
  Cl 111 #[.slice p 0 a,j] q λe l=>e=.returned (.tuple #[])/\l=q:=by
 have h:=λf m=>AnyF.pdqsortCmpFunc_none (P:=prog) (ρ:=Tryz.sortT_ren) Tryz.sortT p a f j m
 change ∀ f m,Cl 172 _ _ _ at h
 have k:=λm=>Tryz.bits_Len 0 m Zo Zo
 have o:=qh h;have HL:=qh k;clear h k;go_enter func111,ntmps111;go_wp2_with fail
 refine(HL.o _).mono ?_;rintro e l ⟨rfl,rfl⟩;go_wp2_with fail
 refine(o.o _ _).mono ?_;rintro e r ⟨rfl,rfl⟩;go_wp2_with fail
 go_end0;exact⟨rfl,rfl⟩
def Xp (f:Mo->Rat) (seen:Array Nat):List TE->Nat->Rat
 | [],_=>0
 | e :: r,i=>(if seen.contains i=true then e.2*f e.1.m else 0)+Xp f seen r (i+1)
theorem VR (f:Mo->Rat):∀ (L:List TE) (i:Nat),Xp f #[] L i=0
 | [],_=>rfl
 | e :: r,i=>by
  show(if (#[]:Array Nat).contains i=true then e.2*f e.1.m else 0)+Xp f #[] r (i+1)=0;rw[VR f r,if_neg (by simp),Rat.zero_add]
theorem UY (f:Mo->Rat) (a:Array Nat) (j:Nat):∀ (L:List TE) (i:Nat),j<i->Xp f (a.push j) L i=Xp f a L i
 | [],_,_=>rfl
 | e :: r,i,h=>by
  show(if (a.push j).contains i=true then e.2*f e.1.m else 0)+Xp f (a.push j) r (i+1)=(if a.contains i=true then e.2*f e.1.m else 0)+Xp f a r (i+1);rw[UY f a j r (i+1) Zo,contains_push,show(i==j)=false by simpa using (by omega:¬i=j),Bool.or_false]
theorem Ko (f:Mo->Rat) (j:Array Nat) {k:Nat} (m:j.contains k=false):∀ (L:List TE) (i:Nat) (e:TE),L[k-i]?=some e->i<=k->Xp f (j.push k) L i=Xp f j L i+e.2*f e.1.m
 | [],i,e,h,_=>by simp at h
 | a :: r,i,e,h,hij=>by
  show(if (j.push k).contains i=true then a.2*f a.1.m else 0)+Xp f (j.push k) r (i+1)=((if j.contains i=true then a.2*f a.1.m else 0)+Xp f j r (i+1))+e.2*f e.1.m;rw[contains_push];by_cases l:i=k
  ·subst l;rw[Nat.sub_self] at h
   obtain rfl:a=e:=by simpa using h
   rw[UY f j i r (i+1) Zo,m,if_pos (by simp),if_neg (by simp)];grind
  ·rw[show(i==k)=false by simpa using l,Bool.or_false,Ko f j m r (i+1) e (by
    rw[show k-i=(k-(i+1))+1 by omega,List.getElem?_cons_succ] at h
    exact h) Zo]
   grind
theorem UZ (f:Mo->Rat) (a:Array Nat):∀ (L:List TE) (i:Nat),(∀ k,i<=k->k<i+L.length->a.contains k=true)->Xp f a L i=ev (L.map tm) f
 | [],_,_=>rfl
 | e :: r,i,h=>by
  show(if a.contains i=true then e.2*f e.1.m else 0)+Xp f a r (i+1)=_;rw[List.map_cons,Jq,if_pos (h i zj (by rw[List.length_cons];omega)),UZ f a r (i+1) λk j l=>h k Zo (by rw[List.length_cons];omega)]
theorem jf5 {e:MapEntry} (h:e∈(Xm L).toArray.toList):∃ i f,L[i]?=some f/\e=ent (f,i):=by
 obtain⟨i,a⟩:=List.mem_iff_getElem?.1 h;rw[Za] at a
 cases hL:L[i]? with
 | none=>rw[hL] at a;cases a
 | some f=>rw[hL] at a;exact⟨i,f,hL,(Option.some.inj a).symm⟩
theorem ents_in {a:TE} (f:L[i]?=some a):ent (a,i)∈(Xm L).toArray.toList:=List.mem_iff_getElem?.2 ⟨i,by rw[Za,f];rfl⟩
theorem jkw (a:List TE):((Xm a).toArray.toList.map (·.born)).Nodup:=by
 show((Xm a).map (·.born)).Nodup
 have e:(Xm a).map (·.born)=List.range a.length:=by
  apply List.ext_getElem?;intro i;rw[List.getElem?_map,Za];by_cases f:i<a.length
  ·rw[List.getElem?_eq_getElem f,List.getElem?_range f];rfl
  ·rw[List.getElem?_eq_none Zo,List.getElem?_eq_none (by rw[List.length_range];omega)];rfl
 rw[e];exact List.nodup_range
structure SumR (w:World) (b:Nat) (L K:List TE) (seen:Array Nat) (c0:Nat) (p:Value) (wr:World):Prop where
 row:OT wr w.heap.size p (K.map Prod.fst)
 it:wr.heap[w.heap.size]?=some (.mapIter (some b) L.length seen c0)
 le:L.length<=c0
 bel:Bl w wr
 mem:∀ e∈K,e.2≠0/\∃ i:Nat,L[i]?=some e/\seen.contains i=true
 keys:(K.map λe=>e.1.m).Nodup
 ev:∀ f,ev (K.map tm) f=Xp f seen L 0
 len:K.length+(leftOf (Xm L).toArray seen).size<=L.length
theorem jkx (m:L.Pairwise (λe f=>FV.apart e.1.c f.1.c)) (h:∀ e∈K,∃ i:Nat,L[i]?=some e) (z:(K.map λe=>e.1.m).Nodup):K.Pairwise (λe f=>FV.apart e.1.c f.1.c):=by
 rw[List.pairwise_iff_getElem];intro i A o q p;obtain⟨a,x⟩:=h _ (List.getElem_mem o);obtain⟨c,y⟩:=h _ (List.getElem_mem q);obtain⟨t,j⟩:=List.getElem?_eq_some_iff.1 x;obtain⟨u,k⟩:=List.getElem?_eq_some_iff.1 y
 have r:a≠c:=by
  rintro rfl;have e:K[i]=K[A]:=j.symm.trans k;have l:=(List.pairwise_iff_getElem.1 z) i A (by rw[List.length_map];exact o) (by rw[List.length_map];exact q) p;rw[List.getElem_map,List.getElem_map,e] at l;exact l rfl
 rw[<- j,<- k]
 rcases Nat.lt_or_gt_of_ne r with v | v
 ·exact List.pairwise_iff_getElem.1 m a c t u v
 ·exact FV.apart.symm (List.pairwise_iff_getElem.1 m c a u t v)
theorem jf6 {a:Array Nat} (o:d.Perm K) (A:d.Pairwise (λe f=>¬e.1.m.lt f.1.m)) (p:∀ e∈K,e.2≠0) (z:(K.map λe=>e.1.m).Nodup) (t:∀ f,ev (K.map tm) f=Xp f a L 0)
  (m:(leftOf (Xm L).toArray a).size=0):Canon (d.map tm)/\nf (L.map tm)=d.map tm:=by
 have r:Canon (d.map tm):=by
  have x:(d.map λe=>e.1.m).Nodup:=(o.map _).nodup_iff.2 z;refine⟨?_,λE B=>?_⟩
  ·rw[List.pairwise_map];rw[List.pairwise_iff_getElem];intro i C u v h;have l:=List.pairwise_iff_getElem.1 A i C u v h;have q:=(List.pairwise_iff_getElem.1 x) i C (by rw[List.length_map];exact u) (by rw[List.length_map];exact v) h;rw[List.getElem_map,List.getElem_map] at q;exact(((Mo.jd4 _ _).resolve_left l).resolve_left q)
  ·obtain⟨e,y,rfl⟩:=List.mem_map.1 B;exact p e (o.mem_iff.1 y)
 refine⟨r,nf_eq r λD=>?_⟩;show ev (d.map tm) _=ev (L.map tm) _;rw[ev_perm (o.map tm),t,UZ];intro k _ j;rw[Nat.zero_add] at j;have l:=all_seen (Xm L).toArray a m (ent (L[k],k)) (ents_in (List.getElem?_eq_getElem j));exact l
theorem info8:(prog.info? 37).map (λi=>(i.zero,i.size,i.bytes))=some (some (.agg #[.bool false,.slice none 0 0,.bool false,.slice none 0 0,.int .u16 0,.int .u16 0,.int .u16 0,.int .u16 0]),8,72):=by kernel_rfl
theorem Only.bel {a:Nat} {j v:World} (l:Below a j v) (k:Only b v w) (h:a<=b) (f:a<=v.heap.size):Below a j w:=l.trans (k.below h f)
theorem OT.at {a:Option Addr} {l:List TV} (o:OT w lo (.slice a n c) l) (j:l≠[]):∃ g,a=some ⟨g,0,none⟩/\lo<=g/\g<w.heap.size/\∃ f,w.heap[g]?=some (.cells f 37 (0,0)):=by
 rcases o.2 with ⟨_,m⟩ | ⟨g,cap,f,k,h,hg,_⟩
 ·exact absurd (List.length_eq_zero_iff.1 m) j
 ·simp only[Value.slice.injEq] at k;exact⟨g,k.1,h,lt_of_block hg,f,hg⟩
theorem OT.only {j:World} {v:Value} {h:List TV} (p:OT w lo v h) (m:Only b w j) (l:∀ a,w.heap[b]?≠some (.cells a 37 (0,0))):OT j lo v h:=by
 refine⟨p.1,p.2.imp id ?_⟩;rintro⟨g,cap,a,o,f,hg,k⟩;exact⟨g,cap,a,o,f,(m.2.2.2.2 g (lt_of_block hg) (λe=>l a (by rw[<- e];exact hg))).trans hg,k⟩
theorem OT.notIter {m:Option Nat} {h:Array Nat} {v:Value} {k:List TV} (a:OT w lo v k) (j:w.heap[b]?=some (.mapIter m s h c)):v.ownBlock≠some b:=by
 rcases a.2 with ⟨f,_⟩ | ⟨g,cap,l,f,_,hg,_⟩
 ·rw[f]
  exact λa=>by cases a
 ·rw[f];intro a;have a:some g=some b:=a
  cases a
  rw[j] at hg
  cases hg
theorem sg_ne {f:Rat}:(Js f.num 0 != 0)=decide (f≠0):=by
 rw[Bool.eq_iff_iff];simp only[bne_iff_ne,ne_eq,decide_eq_true_eq];refine not_congr ?_;rw[<- Rat.num_eq_zero];unfold Js;constructor
 ·intro a;split at a
  ·exact absurd a Ze
  ·split at a
   ·exact absurd a Ze
   ·omega
 ·intro a;rw[a];rfl
theorem jcq {a:Array Nat} (f:(leftOf (Xm L).toArray (a.push i)).size<(leftOf (Xm L).toArray a).size) (j:K.length+(leftOf (Xm L).toArray a).size<=L.length) (n:Nat) (h:n<=1) :
  K.length+n+(leftOf (Xm L).toArray (a.push i)).size<=L.length:=by omega
structure SumD (w:World) (s:Nat) (x:PV) (L d:List TE):Prop where
 row:OT w s x.v (d.map Prod.fst)
 mem:∀ e∈d,e∈L
 ap:d.Pairwise (λe f=>FV.apart e.1.c f.1.c)
 val:d.map tm=nf (L.map tm)
theorem jhs (b lo:Nat) (q:List TE) (r:World) (hM:MK r lo b q) (hL:∀ e∈q,LQ e.2 900000) (av:lo<=r.heap.size) (hn:q.length<=1000000) :
  Cl 40 #[.map (some b)] r λe w'=>∃ (aM:PV) (d:List TE),e=.returned aM.v/\SumD w' r.heap.size aM q d/\Bl r w':=by
 have J:=qh hM;have HL:=qh hL;have aN:=qh av;have HN:=qh hn;have aI:=run_range_map (P:=prog) r 84 35 32 b (Xm q).toArray q.length underlying84 hM.blk;obtain⟨i0,hi,aJ,aK,aL⟩:=info_parts info8;clear hM hL av hn;go_enter func40,ntmps40;go_wp2_with fail
 clear aI;go_loopw [2] (λaQ wr=>∃ K h c0,SumR r b q K h c0 aQ wr) (λ_ wr=>(leftOf (Xm q).toArray (wr.iterSeen r.heap.size)).size)
 case atStart =>
  refine⟨[],#[],q.length,⟨World.ownsRow_nil _ _ _ _,heap_alloc_new r _,zj,zk.alloc zj _,λe m=>(by cases m),List.nodup_nil,λf=>(VR f q 0).symm,?_⟩⟩;rw[List.length_nil,Nat.zero_add];refine zm (Array.size_filter_le ..) ?_;rw[List.size_toArray,jat];exact zj
 case round =>
  obtain⟨K,h,c0,z⟩:=hrel;have l:=qh z;have S:wr.heap[b]?=some (.map (Xm q).toArray q.length):=(z.bel.block b J.o.lt).trans J.o.blk
  have O:∀ aM∈(Xm q).toArray.toList,aM.born<q.length:=λaM hx=>by
   obtain⟨i,j,p,rfl⟩:=jf5 hx;exact(List.getElem?_eq_some_iff.1 p).1
  rcases run_next_at (P:=prog) wr 0 r.heap.size b q.length c0 h (Xm q).toArray q.length z.it S O z.le with ⟨h0,E⟩ | ⟨e,m,I,am,E⟩
  ·have HZ:=qh h0;clear z S O h0;have hp:=OT.slice l.o.row;rw[List.length_map] at hp;obtain⟨pa,pc,rfl,-,-⟩:=hp;by_cases hK:K=[]
   ·subst hK;go_wp2_with fail
    refine(jkv pa pc _ _).mono ?_;rintro e w' ⟨rfl,rfl⟩;go_wp2;go_ret;obtain⟨p,v⟩:=jf6 (List.Perm.refl []) List.Pairwise.nil (λe m=>by cases m) List.nodup_nil l.o.ev HZ.o;exact⟨⟨pa,0,pc⟩,[],rfl,⟨l.o.row,λe m=>(by cases m),List.Pairwise.nil,v.symm⟩,l.o.bel⟩
   ·have aw:K.map Prod.fst≠[]:=λG=>hK (List.map_eq_nil_iff.1 G)
    have ag:0<K.length:=List.length_pos_iff.2 hK;clear hK;obtain⟨g,rfl,aq,aG,-⟩:=OT.at l.o.row aw;have HG:=qh aq;have ST:=qh<|sort_any r.heap.size g pc K wr l.o.row ag (by have:=l.o.len;have:=HN.o;omega);clear aw ag aq aG;go_wp2_with fail
    with_reducible refine ST.o.mono ?_
    rintro e w3 ⟨rfl,d,hd,hs,hO,A⟩;have HD:=qh hd;have HS:=qh hs;have HO:=qh hO;have az:=qh A;clear hd hs hO A ST;go_wp2;go_ret;obtain⟨p,v⟩:=jf6 HD.o HS.o (λe m=>(l.o.mem e m).1) l.o.keys l.o.ev HZ.o;have ay:=Only.bel l.o.bel az.o HG.o l.o.bel.size
    have x:∀ e∈d,∃ i:Nat,q[i]?=some e:=λe m=>by
     obtain⟨i,C,-⟩:=(l.o.mem e (HD.o.mem_iff.1 m)).2;exact⟨i,C⟩
    refine⟨⟨some ⟨g,0,none⟩,K.length,pc⟩,d,rfl,⟨HO.o,λe m=>?_,jkx J.o.ap x ((HD.o.map _).nodup_iff.2 l.o.keys),v.symm⟩,ay⟩;obtain⟨i,C⟩:=x e m;exact List.mem_of_getElem? C
  ·obtain⟨ab,ao⟩:=mem_left m;have ax:=left_shrinks (Xm q).toArray h e m;obtain⟨i,j,au,rfl⟩:=jf5 ab;have Q:=qh<|show(leftOf (Xm q).toArray (h.push i)).size<(leftOf (Xm q).toArray h).size from ax;have U:=qh<|show h.contains i=false from ao;have V:=qh au;change (Instr.next (.pointer (some ⟨r.heap.size,0,none⟩)) false 0).run prog wr=.ok (.tuple #[.bool true,.agg #[.int .u16 j.1.m.x,.int .u16 j.1.m.y,.int .u16 j.1.m.z,.int .u16 j.1.m.t],.agg #[.bool j.1.c.t.s,.slice j.1.c.t.a j.1.c.t.n j.1.c.t.c,.bool j.1.c.l.s,.slice j.1.c.l.a j.1.c.l.n j.1.c.l.c]]) (putObj I r.heap.size (.mapIter (some b) q.length (h.push i) q.length)) at E;obtain⟨u,R⟩:=gn (putObj I r.heap.size (.mapIter (some b) q.length (h.push i) q.length))
   have p:I.heap=wr.heap/\I.os=wr.os/\I.tape=wr.tape/\I.output=wr.output:=by rcases am with rfl | rfl <;> exact⟨rfl,rfl,rfl,rfl⟩
   have ad:I.heap[r.heap.size]?=some (.mapIter (some b) q.length h c0):=by rw[p.1];exact z.it
   have N:u.heap[r.heap.size]?=some (.mapIter (some b) q.length (h.push i) q.length):=by rw[R];exact QS ad
   have A:Only r.heap.size wr u:=by
    rw[R];exact⟨p.2.1,p.2.2.1,p.2.2.2,by rw[Xe,p.1];exact zj,λk _ hk=>(Qk I _ hk).trans (by rw[p.1])⟩
   have an:u.heap[b]?=some (.map (Xm q).toArray q.length):=(A.2.2.2.2 b (Nat.lt_of_lt_of_le J.o.lt z.bel.size) (Nat.ne_of_lt J.o.lt)).trans S;have ac:=run_entry_at (P:=prog) u r.heap.size b q.length h (Xm q).toArray q.length (ent (j,i)) N an ab (jkw q);change (Instr.entry (.pointer (some ⟨r.heap.size,0,none⟩))).run prog u=.ok (.tuple #[.agg #[.int .u16 j.1.m.x,.int .u16 j.1.m.y,.int .u16 j.1.m.z,.int .u16 j.1.m.t],.agg #[.bool j.1.c.t.s,.slice j.1.c.t.a j.1.c.t.n j.1.c.t.c,.bool j.1.c.l.s,.slice j.1.c.l.a j.1.c.l.n j.1.c.l.c]]) u at ac;rw[<- R] at E;have t:=qh N;have y:=qh<|show OT u r.heap.size _ (K.map Prod.fst) from OT.only z.row A (λaO G=>by rw[z.it] at G;cases G);have B:=qh<|show Bl r u from Only.bel z.bel A zj z.bel.size;clear R p ad N A an S O z m ab ao ax au am
   go_upto_region 4 with (fail)
   obtain⟨aP,hV⟩:=gn ((u.alloc (.cells #[.int .u16 j.1.m.x,.int .u16 j.1.m.y,.int .u16 j.1.m.z,.int .u16 j.1.m.t] 35)).alloc (.cells (cFv j.1.c).toArray 32));have H:=bq hV ((zk.alloc zj _).alloc (by go_size) _);have B3:=qh<|bz hV ((Bxs.new u 35 [.int .u16 j.1.m.x,.int .u16 j.1.m.y,.int .u16 j.1.m.z,.int .u16 j.1.m.t]).alloc _)
   have B4:=qh (show Bxs aP (u.heap.size+1) 32 (cFv j.1.c) by
    have G:=Bxs.new (u.alloc (.cells #[.int .u16 j.1.m.x,.int .u16 j.1.m.y,.int .u16 j.1.m.z,.int .u16 j.1.m.t] 35)) 32 (cFv j.1.c);rw[World.size_alloc] at G;rw[hV]
    exact G)
   rw[<- hV];have x:=List.mem_of_getElem? V.o;have aB:=qh<|HL.o j x;have ae:r.heap.size<u.heap.size:=lt_of_block t.o;have t:=qh<|(H.block r.heap.size ae).trans t.o;have y:=qh<|OT.below y.o H;have B:=qk B H;have ND:=qh<|(J.o.df j x).below B.o;have F:=qh<|Nat.lt_of_lt_of_le ae H.size;obtain⟨sg,ah⟩:=gn (Js j.2.num 0);have CT:=qh<|jhj ND.o.k.any (ND.o.k.len aB.o zj);rw[<- ah] at CT
   have ar:(sg != 0)=decide (j.2≠0):=by rw[ah];exact sg_ne
   clear hV H x E ac ae ah;obtain⟨X,Y,Z,aa⟩:=B4.o.c4;have aj:=qh ar;clear ar;go_wp2_with fail
   with_reducible refine CT.o.mono ?_
   rintro e w4 ⟨rfl,M⟩;clear X Y Z aa CT;have t:=qh<|(M.block r.heap.size F.o).trans t.o;have y:=qh<|OT.below y.o M;have B:=qk B M;have B3:=qh<|B3.o.bl M;have B4:=qh<|B4.o.bl M;have F:=qh<|Nat.lt_of_lt_of_le F.o M.size;clear M;by_cases T:j.2=0
   ·have g0:(sg != 0)=false:=by rw[aj.o];exact zo λG=>G T
    have HQ:=qh T;clear T;go_wp2;go_roundw
    case rel =>
     refine⟨K,h.push i,q.length,y.o,t.o,zj,B.o,λe m=>?_,l.o.keys,λf=>?_,?_⟩
     ·obtain⟨p,ai,v,C⟩:=l.o.mem e m;exact⟨p,ai,v,by rw[contains_push,C];rfl⟩
     ·rw[Ko f h U.o q 0 j (by rw[Nat.sub_zero];exact V.o) (Nat.zero_le _),<- l.o.ev,HQ.o];grind
     ·have:=jcq Q.o l.o.len 0 Zo;omega
    case measure =>
     have p:wr.iterSeen r.heap.size=h:=by unfold World.iterSeen;rw[l.o.it]
     have v:w4.iterSeen r.heap.size=h.push i:=by unfold World.iterSeen;rw[t.o]
     rw[p,v];exact Q.o
   ·have g0:(sg != 0)=true:=by rw[aj.o];exact decide_eq_true T
    have HQ:=qh T;clear T;obtain⟨X,Y,Z,aa⟩:=B4.o.c4;obtain⟨aC,aD,aE,aF⟩:=B3.o.c4;have ak:=qh (show K.length+1<=1000001 by have:=l.o.len;have:=HN.o;omega);go_wp2_with (first | (at_builtin;refine wpList_append_own _ rfl _ _ 23 rfl r.heap.size 37 i0 _ 8 72 underlying23 hi aJ aK aL rfl Ze _ _ _ rfl (y.o.alloc _) ⟨w4.heap.size,0,none⟩ 1 1 (TV.cells j.1) rfl rfl ?c1 ?c2 ?c3 ?c4 ?c5 ?_))
    case c1 =>
     intro ai aR o
     match ai,o with
     | 0,o=>simp[TV.cells] at o;subst o;simp[Addr.add]
     | 1,o=>simp[TV.cells] at o;subst o;simp[Addr.add]
     | 2,o=>simp[TV.cells] at o;subst o;simp[Addr.add]
     | 3,o=>simp[TV.cells] at o;subst o;simp[Addr.add]
     | 4,o=>simp[TV.cells] at o;subst o;simp[Addr.add]
     | 5,o=>simp[TV.cells] at o;subst o;simp[Addr.add]
     | 6,o=>simp[TV.cells] at o;subst o;simp[Addr.add]
     | 7,o=>simp[TV.cells] at o;subst o;simp[Addr.add]
    case c2 =>
     intro aR hu;simp only[TV.cells,List.mem_cons,List.mem_nil_iff,or_false] at hu
     rcases hu with rfl | rfl | rfl | rfl | rfl | rfl | rfl | rfl <;> rfl
    case c3=>rw[List.length_map];have:=ak.o;unfold maxLen;omega
    case c4=>rw[List.length_map];have:=ak.o;omega
    case c5=>have:=B.o.size;simp;omega
    intro v' w5 af D _
    have O5:=qh (show OT w5 r.heap.size v' ((K++[j]).map Prod.fst) by
     have e1:(K++[j]).map Prod.fst=K.map Prod.fst++[j.1]:=by rw[List.map_append];rfl
     have e2:(K.map Prod.fst++[j.1]).flatMap TV.cells=(K.map Prod.fst).flatMap TV.cells++TV.cells j.1:=by rw[List.flatMap_append,List.flatMap_cons,List.flatMap_nil,List.append_nil]
     rw[e1];show w5.ownsRow _ _ _ _ _ _;rw[e2,List.length_append,List.length_map]
     exact af)
    have W:=qh<|(D.block r.heap.size (by have:=F.o;rw[World.size_alloc];omega) (λG=>OT.notIter y.o t.o G.symm)).trans ((heap_alloc_old w4 _ F.o).trans t.o);have aA:=qh<|(B.o.alloc B.o.size _).grown D (by have:=B.o.size;rw[World.size_alloc];omega) (λg hg=>(World.ownsRow.lt y.o g hg).1);clear af D X Y Z aa aC aD aE aF;go_wp2;go_roundw
    case rel =>
     refine⟨K++[j],h.push i,q.length,O5.o,W.o,zj,aA.o,λe m=>?_,?_,λf=>?_,?_⟩
     ·rcases List.mem_append.1 m with m | m
      ·obtain⟨p,ai,v,C⟩:=l.o.mem e m;exact⟨p,ai,v,by rw[contains_push,C];rfl⟩
      ·rw[List.mem_singleton.1 m];exact⟨HQ.o,i,V.o,by rw[contains_push];simp⟩
     ·rw[List.map_append];refine List.nodup_append.2 ⟨l.o.keys,by simp,λa ha c hc=>?_⟩;obtain⟨e,m,rfl⟩:=List.mem_map.1 ha
      have:c=j.1.m:=by simpa using hc
      rw[this];obtain⟨-,ai,v,C⟩:=l.o.mem e m;intro e1;obtain⟨l2,q2⟩:=List.getElem?_eq_some_iff.1 v;obtain⟨l3,q3⟩:=List.getElem?_eq_some_iff.1 V.o
      have aH:ai≠i:=λG=>by rw[G,U.o] at C;cases C
      have hk:=List.pairwise_iff_getElem.1 J.o.keys
      rcases Nat.lt_or_gt_of_ne aH with G | G
      ·have:=hk ai i (by rw[List.length_map];exact l2) (by rw[List.length_map];exact l3) G;rw[List.getElem_map,List.getElem_map,q2,q3] at this;exact this e1
      ·have:=hk i ai (by rw[List.length_map];exact l3) (by rw[List.length_map];exact l2) G;rw[List.getElem_map,List.getElem_map,q2,q3] at this;exact this e1.symm
     ·rw[Ko f h U.o q 0 j (by rw[Nat.sub_zero];exact V.o) (Nat.zero_le _),<- l.o.ev,List.map_append,Xi];show _+(j.2*f j.1.m+0)=_;rw[Rat.add_zero]
     ·rw[List.length_append];exact jcq Q.o l.o.len 1 zj
    case measure =>
     have p:wr.iterSeen r.heap.size=h:=by unfold World.iterSeen;rw[l.o.it]
     have v:w5.iterSeen r.heap.size=h.push i:=by unfold World.iterSeen;rw[W.o]
     rw[p,v];exact Q.o
theorem SumD.dp {j:World} {o:PV} (f:SumD w s o L d) (h:MK j lo b L) (k:Bl j w) (l:lo<=s):DP w lo o (nf (L.map tm)):=by
 rw[<- f.val];refine⟨⟨d,OT.mono f.row l,λe a=>(h.df e (f.mem e a)).below k,f.ap,rfl⟩,by rw[f.val];exact Qn _,λp m=>?_⟩;obtain⟨e,a,rfl⟩:=List.mem_map.1 m;exact h.small e (f.mem e a)
theorem Vv (b a:Nat) (h:List TE) (l:World) (k:MK l a b h) (r:∀ e∈h,LQ e.2 900000) (f:a<=l.heap.size) (t:h.length<=1000000) :
  Cl 40 #[.map (some b)] l λe m=>∃ o:PV,e=.returned o.v/\DP m a o (nf (h.map tm))/\Bl l m :=
 (jhs b a h l k r f t).mono λ_ _ ⟨o,_,p,q,j⟩=>⟨o,p,q.dp k j f,j⟩
end Pol
namespace Limb
open Go.RowKit Go.Sort
def RKF (w:World) (q:Rat) (e:Ending) (w':World):Prop:=∃ y:FV,e=.returned y.v/\KF w' y q/\Bl w w'
theorem rfitQ {j:World} {x:FV} {z:Rat} (a:AF j x z) (A:LF x 900000):Cl 151 #[x.v] j (RKF j z):=by
 obtain⟨u,v,f,h,m⟩:=a.ex;have y:=X9 x.t.s x.t.a x.t.n x.t.c u x.l.s x.l.a x.l.n x.l.c v j j.heap.size zj f Zo a.l1 (jf1 f) h Zo a.l2 (jf1 h);rw[m] at y;refine y.mono ?_;rintro e B ⟨k,c1,l,c2,rfl,o,r,p,t,q⟩;exact⟨⟨⟨_,k,_,c1⟩,⟨_,l,_,c2⟩⟩,rfl,⟨⟨rfl,rfl,o.rd,r⟩,⟨rfl,rfl,p.rd,t⟩⟩,q⟩
end Limb
namespace Pol
open Go.RowKit Go.Sort Limb
variable {w:World}
def Xr (w:World) (b:Nat) (v0 v1 v2 v3 v4 v5 v6 v7:Value):World :=
 (((((((w.setCell ⟨b,0,none⟩ v0).setCell ⟨b,1,none⟩ v1).setCell ⟨b,2,none⟩ v2).setCell ⟨b,3,none⟩ v3).setCell ⟨b,4,none⟩ v4).setCell ⟨b,5,none⟩ v5).setCell ⟨b,6,none⟩ v6).setCell ⟨b,7,none⟩ v7
theorem J9 {b:Nat} {z:TypeId} {p q r t u v x y:Value} (A:Bxs w b z [p,q,r,t,u,v,x,y]) (a f h j k l m o:Value):Bxs (Xr w b a f h j k l m o) b z [a,f,h,j,k,l,m,o] :=
 (((((((A.put 0 a).put 1 f).put 2 h).put 3 j).put 4 k).put 5 l).put 6 m).put 7 o
theorem put8_mk {y C b:Nat} {B:List TE} {D:TypeId} {F:List Value} (E:MK w y C B) (x:Bxs w b D F) (a:128≠D) (f h j k l m o z:Value):MK (Xr w b f h j k l m o z) y C B:=by
 have p:=x.put 0 f;have q:=p.put 1 h;have r:=q.put 2 j;have t:=r.put 3 k;have u:=t.put 4 l;have v:=u.put 5 m;have A:=v.put 6 o;exact(((((((E.Jt x a 0 f).Jt p a 1 h).Jt q a 2 j).Jt r a 3 k).Jt t a 4 l).Jt u a 5 m).Jt v a 6 o).Jt A a 7 z
theorem jdw {y b:Nat} {D:FV} {B:Rat} {C:TypeId} {F:List Value} (E:DF w y D B) (x:Bxs w b C F) (a:128≠C) (f h j k l m o z:Value):DF (Xr w b f h j k l m o z) y D B:=by
 have p:=x.put 0 f;have q:=p.put 1 h;have r:=q.put 2 j;have t:=r.put 3 k;have u:=t.put 4 l;have v:=u.put 5 m;have A:=v.put 6 o;exact(((((((E.Jt x a 0 f).Jt p a 1 h).Jt q a 2 j).Jt r a 3 k).Jt t a 4 l).Jt u a 5 m).Jt v a 6 o).Jt A a 7 z
theorem J5 {q:Nat} {r:World} {b:Nat} (t:Below q r w) (a:q<=b) (f h j k l m o p:Value):Below q r (Xr w b f h j k l m o p) :=
 (((((((t.setCell a f).setCell a h).setCell a j).setCell a k).setCell a l).setCell a m).setCell a o).setCell a p
def NB (l:List Tm) (j k:Nat):Prop:=∀ t∈l,∃ i,0<i/\i<=j/\NQ t.2 i k
theorem NB.nil (f k:Nat):NB [] f k:=λh a=>by cases a
theorem NB.put {o:List Tm} {q k:Nat} {p:Rat} (m:NB o q k) (u:Mo) (l:LQ p k):NB (YJ u p o) (q+1) k:=by
 induction o with
 | nil =>
  intro t a
  obtain rfl:t=(u,p):=by simpa[YJ] using a
  exact⟨1,Zo,Zo,NQ.one l⟩
 | cons s r ih =>
  intro t a;unfold YJ at a;split at a
  ·rcases List.mem_cons.1 a with rfl | a
   ·obtain⟨i,f,j,h⟩:=m s (List.mem_cons_self ..);exact⟨i+1,Zo,Zo,h.add (NQ.one l) f Zo⟩
   ·obtain⟨i,f,j,h⟩:=m t (List.mem_cons_of_mem _ a);exact⟨i,f,Zo,h⟩
  ·rcases List.mem_cons.1 a with rfl | a
   ·obtain⟨i,f,j,h⟩:=m t (List.mem_cons_self ..);exact⟨i,f,Zo,h⟩
   ·exact ih (λt a=>m t (List.mem_cons_of_mem _ a)) t a
theorem NB.lq {o:List Tm} {m k p:Nat} (q:NB o m k) (h:m*(k+1)<=p):∀ l∈o,LQ l.2 p:=λl j=>by
 obtain⟨i,_,a,f⟩:=q l j;exact f.lq (zm (Nat.mul_le_mul_right _ a) h)
theorem Y3 (f:Mo) (h:Rat):∀ a:List Tm,(YJ f h a).length<=a.length+1
 | []=>zj
 | s :: r=>by
  unfold YJ;have:=Y3 f h r;split
  ·simp
  ·simp;omega
theorem jav {a r:List Tm} (h:∀ f,ev a f=ev r f):nf a=nf r:=nf_same h
structure RowA (w:World) (x:PV) (L:List TE):Prop where
 rt:RT w x.a (L.map Prod.fst)
 len:L.length=x.n
 af:∀ e∈L,AF w e.1.c e.2
 lf:∀ e∈L,LF e.1.c 900000
theorem RowA.below {w':World} {k:PV} {j:List TE} (f:RowA w k j) (a:Bl w w'):RowA w' k j:=⟨f.rt.below a,f.len,λe h=>(f.af e h).below a,f.lf⟩
theorem KP.rowA {o:PV} {j:List Tm} (p:KP w o j) (m:∀ q∈j,LQ q.2 900000):∃ L,RowA w o L/\(∀ e∈L,KF w e.1.c e.2)/\L.map tm=j:=by
 obtain⟨L,k,l,f,h⟩:=p.ex;exact⟨L,⟨k,l,λe a=>(f e a).any,λe a=>(f e a).len (m (tm e) (by rw[<- h];exact List.mem_map_of_mem a)) zj⟩,f,h⟩
theorem with_any (ak:Nat) (cs:Array Value) (az:PV) (D:List TE) (V:TE->Tm) (k:Nat) (l:World) (hx:RowA l az D) (hn:D.length<=1000000) (hk:D.length*(k+1)<=900000)
  (aA:∀ (M:Array Value) (l:World),(callFunc ak M).run prog l=.ok (.enter ak M) l)
  (hF:∀ e∈D,∀ U,Bl l U->AF U e.1.c e.2->LF e.1.c 900000->Cl ak (#[TV.v e.1]++cs) U λen T=>∃ q:FV,en=.returned (TV.v ⟨q,(V e).1⟩)/\DF T U.heap.size q (V e).2/\Bl U T)
  (hs:∀ e∈D,(V e).1.Small) (hq:∀ e∈D,LQ (V e).2 k) :
  Cl 186 #[az.v,.func (.func ak) #[] cs] l λe T=>∃ q:PV,e=.returned q.v/\DP T l.heap.size q (nf (D.map V))/\Bl l T:=by
 obtain⟨xa,z,xc⟩:=az;change Cl 186 #[.slice xa z xc,.func (.func ak) #[] cs] l _;have m:=qh<|show D.length=z from hx.len;have HX:=qh hx;have HN:=qh hn;have HK:=qh hk;have HF:=qh hF;have HS:=qh hs;have HQ:=qh hq
 have aw:=λ(F:TypeId) (l:World)=>run_makeMap (P:=prog) F l
 clear hx hn hk hF hs hq;go_enter func186,ntmps186;go_wp2_with fail
 clear aw;go_loopw [11] (λi wr=>∃ (t:Nat) (J:List TE),t<=z/\i=.int .i64 t/\MK wr l.heap.size l.heap.size J/\(∀ f,ev (J.map tm) f=ev ((D.take t).map V) f)/\NB (J.map tm) t k/\J.length<=t/\Bl l wr) (λi _=>z-(intOf i).toNat)
 case atStart =>
  exact⟨0,[],Nat.zero_le _,rfl,⟨heap_alloc_new l _,zj,λe h=>(by cases h),List.Pairwise.nil,List.nodup_nil,λe h=>(by cases h)⟩,λf=>(by rw[zy];rfl),NB.nil _ _,zj,zk.alloc zj _⟩
 case round =>
  obtain⟨t,J,hj,rfl,hM,af,ah,ag,ad⟩:=hrel;have HJ:=qh hj;have o:=qh hM;have X:=qh af;have G:=qh ah;have Z:=qh ag;have a:=qh ad;clear hj hM af ah ag ad;have Y:=qh<|show t*(k+1)<=900000 from zm (Nat.mul_le_mul_right _ HJ.o) (by rw[<- m.o];exact HK.o);by_cases C:t<z
  ·have A:=qh C
   have S:t<D.length:=by rw[m.o];exact C
   obtain⟨pb,po,rfl,ax,ae⟩:=(HX.o.below a.o).rt.off (i:=t) (by rw[List.length_map];exact S);obtain⟨e,h⟩:∃ e,D[t]?=some e:=⟨_,List.getElem?_eq_getElem S⟩;obtain⟨F,aj⟩:=e;obtain⟨c0,c1,c2,c3,c4,c5,u,v⟩:=RT.eight ae (i:=t) (t:=F) (by rw[List.getElem?_map,h];rfl);have HE:=qh h;have j:=List.mem_of_getElem? h;clear ae h ax S
   go_upto_region 5 with (fail)
   obtain⟨aC,W⟩:=gn (wr.alloc (.cells (cTv F.c F.m).toArray 37));have R:=bq W (zk.alloc zj _);have r:=qh<|al W;obtain⟨A7,B⟩:=gn wr.heap.size;rw[<- W,<- B];rw[<- B] at r;have am:=qh (show l.heap.size<=A7 by rw[B];exact a.o.size);have o:=qh<|o.o.below R;have a:=qk a R;obtain⟨p,gq,hg⟩:∃ p gq,V (F,aj)=(p,gq):=⟨_,_,rfl⟩;have N:=HF.o (F,aj) j aC a.o ((HX.o.af _ j).below a.o) (HX.o.lf _ j);have Q:=HS.o (F,aj) j;have O:=HQ.o (F,aj) j;rw[hg] at N Q O;have CT:=qh N;have ar:=qh Q;have aa:=qh O;have HG:=qh hg;have ek:IntKind.i64.wrap ((t:Int)+1)=(t:Int)+1:=IntWalk.i64_in _ (by have:=A.o;have:=m.o;have:=HN.o;omega);clear W R B j N Q O hg c0 c1 c2 c3 c4 c5 u v C;obtain⟨c0,c1,c2,c3,c4,c5,u,v⟩:=r.o.c8;go_wp2_with fail
   refine CT.o.mono ?_;rintro e w2 ⟨q,rfl,E,y⟩;clear c0 c1 c2 c3 c4 c5 u v CT;have r:=qh<|r.o.bl y;have an:=qh (show ∀ e∈J,FV.apart e.1.c q from λe h b au av=>Nat.not_lt_of_le (E.QV b av).1 ((o.o.df e h).QV b au).2);have o:=qh<|o.o.below y;have I:=qh<|E.mono a.o.size;have a:=qk a y;clear E y;obtain⟨c0,c1,c2,c3,c4,c5,u,v,cf,cl⟩:=r.o.d8
   go_upto_region 6 with (fail)
   clear c0 c1 c2 c3 c4 c5 u v cf cl;obtain⟨ay,x⟩:=gn (Xr w2 A7 (.bool q.t.s) (.slice q.t.a q.t.n q.t.c) (.bool q.l.s) (.slice q.l.a q.l.n q.l.c) (.int .u16 p.x) (.int .u16 p.y) (.int .u16 p.z) (.int .u16 p.t));have B8:=qh<|bz x (J9 r.o ..);have o:=qh (show MK ay l.heap.size l.heap.size J by rw[x];exact put8_mk o.o r.o Ze ..);have I:=qh (show DF ay l.heap.size q gq by rw[x];exact jdw I.o r.o Ze ..);have a:=qh<|bq x (J5 a.o am.o ..);unfold Xr at x;rw[<- x]
   have AD:=qh (Vu l.heap.size l.heap.size J q gq p ay o.o I.o an.o ar.o (aa.o.up (by have:=Nat.le_mul_of_pos_left (k+1) (show 0<D.length by rw[m.o];have:=A.o;omega);have:=HK.o;omega))
    (λe h=>G.o.lq Y.o (tm e) (List.mem_map_of_mem h)) a.o.size)
   clear x;obtain⟨c0,c1,c2,c3,c4,c5,u,v⟩:=B8.o.c8;go_wp2_with fail
   with_reducible refine AD.o.mono ?_
   rintro e w3 ⟨rfl,⟨M',ab,ai⟩,ac⟩;have aq:=qh ab;have H:=qh ai;have a:=qh<|Only.bel a.o ac zj a.o.size;clear ab ai ac AD c0 c1 c2 c3 c4 c5 u v;go_wp2;go_roundw
   case rel =>
    refine⟨t+1,M',Zh A,rfl,aq.o,λf=>?_,?_,?_,a.o⟩
    ·rw[H.o,Ve,X.o,List.take_add_one,HE.o,List.map_append,Xi];show _=_+((V (F,aj)).2*f (V (F,aj)).1+0);rw[HG.o];grind
    ·rw[H.o];exact G.o.put p aa.o
    ·have h1:=congrArg List.length H.o;have h2:=Y3 p gq (J.map tm);rw[List.length_map] at h1 h2;have:=Z.o;omega
   case measure=>simp[intOf];have:=A.o;omega
  ·have ao:=qh (show t=z by have:=HJ.o;omega);have aB:¬((t:Int)<(z:Int)):=Zo;have SM:=qh<|Vv l.heap.size l.heap.size J wr o.o (λe h=>G.o.lq Y.o (tm e) (List.mem_map_of_mem h)) a.o.size (by have:=Z.o;have:=HJ.o;have:=m.o;have:=HN.o;omega);clear C;go_wp2_with fail
   with_reducible refine SM.o.mono ?_
   rintro e w3 ⟨q,rfl,E,y⟩;have I:=qh E;have a:=qk a y;clear E y SM;go_wp2;go_ret;refine⟨q,rfl,?_,a.o⟩
   have e1:nf (J.map tm)=nf (D.map V):=jav λf=>by
    rw[X.o,List.take_of_length_le (by rw[m.o,ao.o];exact zj)]
   rw[<- e1];exact I.o

end Pol
end Go.Proofs.YthacfgmdihcffaaGreatDoor
