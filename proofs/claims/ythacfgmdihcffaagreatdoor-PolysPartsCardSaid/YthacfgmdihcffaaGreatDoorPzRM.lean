/-
  Texts of fractions, plain: a fraction's text is read as it; what is read is read again from its text.
-/
import Derived.Test.YthacfgmdihcffaaGreatDoorPzRI
import Derived.Test.YthacfgmdihcffaaGreatDoorPzRL
import Derived.WalkKit
import Derived.ProofKit
import Derived.OpenShut
import Derived.Deep.DeepHandedRow
import Derived.Lib.LaidTab
import Derived.Lay
import Derived.MakeChecks
import Derived.Stop.LaidErr
import Derived.Deep.DeepWitnessRowRef
import Derived.Lib.CutLaws
import Derived.Maps.RangeRun
import Derived.Lib.IndexMore
set_option linter.unusedSimpArgs false
set_option linter.unusedVariables false
set_option maxHeartbeats 16000000
set_option maxRecDepth 100000
namespace Go.Proofs.YthacfgmdihcffaaGreatDoor
namespace Limb
open Go.RowKit Go.Sort
structure NumR (w:World) (z:Int) (a:Option Addr) (c:Nat):Prop where
 rd:Rd w a (lenB z.natAbs) (dgi z.natAbs)
 le:lenB z.natAbs<=c
theorem NumR.below {w w':World} {z:Int} {a:Option Addr} {c:Nat} (h:NumR w z a c) (hb:Below w.heap.size w w'):NumR w' z a c:=⟨h.rd.below hb,h.le⟩
abbrev numC (z:Int) (a:Option Addr) (c:Nat):Value:=numV (decide (z<0)) a (lenB z.natAbs) c
open Classical in
theorem sameLimbs_dec (a b:Option Addr) (n m ca cb:Nat) (o p:Nat->Int) (w:World) (ha:Rd w a n o) (hb:Rd w b m p) (hn:n<=1000000000) (hm:m<=1000000000) :
  Calls Tryz.prog 174 #[.slice a n ca,.slice b m cb] w fun e w'=>e=.returned (.bool (decide (n=m/\∀ i,i<n->o i=p i)))/\∃ m,w'=w.drewN m:=by
 have HA:=qh ha;have HB:=qh hb;clear ha hb;obtain⟨d,hd⟩:∃ d,d=decide (n=m/\∀ i,i<n->o i=p i):=⟨_,rfl⟩;rw[<- hd];by_cases hnm:n=m
 ·subst hnm;have Y:=qh (fun (h:∀ i,i<n->o i=p i)=>(hd.trans (decide_eq_true ⟨rfl,h⟩):d=true));have Z:=qh (fun (i:Nat) (hi:i<n) (h:o i≠p i)=>(hd.trans (zo (fun h2=>h (h2.2 i hi))):d=false));clear hd;go_enter Tryz.func174,Tryz.ntmps174;go_wp2_with fail
  go_loopw [5] (fun i wr=>∃ t:Nat,t<=n/\i=.int .i64 t/\(∀ j,j<t->o j=p j)/\∃ m,wr=w.drewN m) (fun i _=>n-(intOf i).toNat)
  case atStart=>exact⟨0,by omega,rfl,fun j hj=>by omega,0,rfl⟩
  case round =>
   obtain⟨t,htn,rfl,he,hm⟩:=hrel;have HM:=qh hm;have HE:=qh he
   have cw:∀ p,wr.cell? p=w.cell? p:=by obtain⟨m,rfl⟩:=hm;intro p;rfl
   clear hm he;by_cases ht:t<n
   ·obtain⟨b1,o1,rfl,hc1⟩:=HA.o.cells (by omega);obtain⟨b2,o2,rfl,hc2⟩:=HB.o.cells (by omega);have c1:wr.cell? ⟨b1,o1+t,none⟩=some (.int .u32 (o t)):=(cw _).trans (hc1 t ht);have c2:wr.cell? ⟨b2,o2+t,none⟩=some (.int .u32 (p t)):=(cw _).trans (hc2 t ht);obtain⟨x,hx⟩:∃ x,x=o t:=⟨_,rfl⟩;obtain⟨y,hy⟩:∃ y,y=p t:=⟨_,rfl⟩;rw[<- hx] at c1;rw[<- hy] at c2;have HXY:=qh (And.intro hx hy);clear hc1 hc2 cw hx hy;by_cases hxy:x=y
    ·have hq:(x==y)=true:=by simpa using hxy
     subst hxy;go_wp2_with fail
     go_quiet (fail);go_wp2_with fail
     go_roundw
     case rel =>
      refine⟨t+1,by omega,by go_num,fun j hj=>?_,by obtain⟨m,e⟩:=HM.o;exact⟨_,by rw[e,World.drewN_drewN]⟩⟩;by_cases e:j=t
      ·subst e;rw[<- HXY.o.1,<- HXY.o.2]
      ·exact HE.o j (by omega)
     case measure=>simp[intOf];omega
    ·have hq:(x==y)=false:=by simpa using hxy
     have E:=qh (Z.o t ht (by rw[<- HXY.o.1,<- HXY.o.2];exact hxy));go_wp2_with fail
     go_quiet (fail);go_wp2_with fail
     go_ret;exact⟨by rw[E.o];rfl,by obtain⟨m,e⟩:=HM.o;exact⟨_,by rw[e,World.drewN_drewN]⟩⟩
   ·obtain rfl:t=n:=by omega
    have E:=qh (Y.o HE.o);clear cw;go_wp2_with fail
    go_ret;exact⟨by rw[E.o];rfl,HM.o⟩
 ·have hq:¬(n:Int)=(m:Int):=by omega
  rw[hd,zo (fun h=>hnm h.1)];clear hd;go_enter Tryz.func174,Tryz.ntmps174;go_wp2_with fail
  go_ret;exact⟨rfl,0,rfl⟩
open Classical in
theorem sameC {w:World} {z1 z2:Int} {a1 a2:Option Addr} {c1 c2:Nat} (h1:NumR w z1 a1 c1) (b1:lenB z1.natAbs<=10000000) (h2:NumR w z2 a2 c2) (b2:lenB z2.natAbs<=10000000) :
  Calls Tryz.prog 114 #[numC z1 a1 c1,numC z2 a2 c2] w fun e w'=>e=.returned (.bool (decide (z1=z2)))/\Below w.heap.size w w':=by
 have HC:=qh (fun (w':World) (h:Below w.heap.size w w')=>sameLimbs_dec a1 a2 _ _ c1 c2 _ _ w' (h1.rd.below h) (h2.rd.below h) (by omega) (by omega))
 have HD:=qh (show(decide (z1<0)==decide (z2<0)&&decide (lenB z1.natAbs=lenB z2.natAbs/\∀ i,i<lenB z1.natAbs->dgi z1.natAbs i=dgi z2.natAbs i))=decide (z1=z2) by
  by_cases h:z1=z2
  ·subst h;simp
  ·rw[zo h];by_cases hs:decide (z1<0)=decide (z2<0)
   ·rw[hs,beq_self_eq_true,Bool.true_and]
    refine zo fun h3=>h ?_
    have h4:=canon_val z1;have h5:=canon_val z2;rw[<- h4,<- h5,hs,h3.1];unfold valN
    have e:sumB (dgi z1.natAbs) (lenB z2.natAbs)=sumB (dgi z2.natAbs) (lenB z2.natAbs):=sumB_congr fun i hi=>h3.2 i (by rw[h3.1];exact hi)
    have k1:okN (decide (z2<0)) (lenB z2.natAbs) (dgi z1.natAbs):=by have:=canon_ok z1;rw[hs,h3.1] at this;exact this
    rw[if_pos k1,if_pos (canon_ok z2),e]
   ·have:(decide (z1<0)==decide (z2<0))=false:=by simpa using hs
    rw[this,Bool.false_and])
 obtain⟨s1,hs1⟩:∃ s1,s1=decide (z1<0):=⟨_,rfl⟩;obtain⟨s2,hs2⟩:∃ s2,s2=decide (z2<0):=⟨_,rfl⟩;obtain⟨t,ht⟩:∃ t,t=decide (lenB z1.natAbs=lenB z2.natAbs/\∀ i,i<lenB z1.natAbs->dgi z1.natAbs i=dgi z2.natAbs i):=⟨_,rfl⟩;rw[<- hs1,<- hs2,<- ht] at HD;rw[<- ht] at HC;show Calls Tryz.prog 114 #[numV (decide (z1<0)) a1 (lenB z1.natAbs) c1,numV (decide (z2<0)) a2 (lenB z2.natAbs) c2] w _;rw[<- hs1,<- hs2,<- HD.o];clear h1 h2 hs1 hs2 ht HD
 generalize lenB z1.natAbs=n1 at *
 generalize lenB z2.natAbs=n2 at *
 by_cases hs:s1=s2
 ·have hq:(s1==s2)=true:=by simpa using hs
  rw[hq,Bool.true_and];go_enter Tryz.func114,Tryz.ntmps114;go_wp2_with fail
  refine(HC.o _ ?_).mono ?_
  ·exact qg
  rintro e w1 ⟨rfl,m,rfl⟩;go_wp2_with fail
  go_ret;exact⟨rfl,qg⟩
 ·have hq:(s1==s2)=false:=by simpa using hs
  rw[hq,Bool.false_and];go_enter Tryz.func114,Tryz.ntmps114;go_wp2_with fail
  go_ret;exact⟨rfl,qg⟩
open Go.Fresh
structure NumA (w:World) (s:Bool) (a:Option Addr) (n c:Nat) (z:Int):Prop where
 ex:∃ o,Rd w a n o/\valN s n o=z
 le:n<=c
theorem NumA.below {w w':World} {s:Bool} {a:Option Addr} {n c:Nat} {z:Int} (h:NumA w s a n c z) (hb:Below w.heap.size w w'):NumA w' s a n c z:=by
 obtain⟨o,hr,hv⟩:=h.ex;exact⟨⟨o,hr.below hb,hv⟩,h.le⟩
theorem NumR.any {w:World} {z:Int} {a:Option Addr} {c:Nat} (h:NumR w z a c):NumA w (decide (z<0)) a (lenB z.natAbs) c z:=⟨⟨_,h.rd,canon_val z⟩,h.le⟩
structure NumO (w:World) (b:Nat) (z:Int) (a:Option Addr) (c:Nat):Prop where
 own:Own 128 w b a (lenB z.natAbs) c (dgi z.natAbs)
theorem NumO.below {w w':World} {b:Nat} {z:Int} {a:Option Addr} {c:Nat} (h:NumO w b z a c) (hb:Below w.heap.size w w'):NumO w' b z a c:=⟨h.own.below hb⟩
theorem NumO.r {w:World} {b:Nat} {z:Int} {a:Option Addr} {c:Nat} (h:NumO w b z a c):NumR w z a c:=⟨h.own.rd,h.own.le⟩
theorem NumO.any {w:World} {b:Nat} {z:Int} {a:Option Addr} {c:Nat} (h:NumO w b z a c):NumA w (decide (z<0)) a (lenB z.natAbs) c z:=h.r.any
theorem lenZ_val (s:Bool) (n:Nat) (o:Nat->Int) (h:∀ i,i<n->0<=o i/\o i<=4294967295):lenB (valN s n o).natAbs<=n:=by
 by_cases hk:okN s n o
 ·obtain⟨f1,f2,f3⟩:=of_facts s n o hk h;omega
 ·rw[show valN s n o=0 by unfold valN;rw[if_neg hk]];simp[lenB_zero]
theorem NumA.len {w:World} {s:Bool} {a:Option Addr} {n c:Nat} {z:Int} (h:NumA w s a n c z):lenB z.natAbs<=n:=by
 obtain⟨o,hr,rfl⟩:=h.ex;exact lenZ_val s n o hr.rng
theorem len1 {z:Int} (h1:-9223372036854775808<=z) (h2:z<=9223372036854775807):lenB z.natAbs<=3:=len3 (by omega)
end Limb
namespace Limb
open Go.RowKit Go.Sort
structure NV where
 s:Bool
 a:Option Addr
 n:Nat
 c:Nat
abbrev NV.v (x:NV):Value:=.agg #[.bool x.s,.slice x.a x.n x.c]
theorem NV.inj {x y:NV} (h:x.v=y.v):x=y:=by
 cases x;cases y
 simp only[Value.agg.injEq,Array.mk.injEq,List.cons.injEq,Value.bool.injEq,Value.slice.injEq,and_true] at h;obtain⟨rfl,rfl,rfl,rfl⟩:=h;rfl
abbrev AN (w:World) (x:NV) (z:Int):Prop:=NumA w x.s x.a x.n x.c z
structure KN (w:World) (x:NV) (z:Int):Prop where
 s:x.s=decide (z<0)
 n:x.n=lenB z.natAbs
 rd:Rd w x.a x.n (dgi z.natAbs)
 le:x.n<=x.c
structure DN (w:World) (lo:Nat) (x:NV) (z:Int):Prop where
 s:x.s=decide (z<0)
 n:x.n=lenB z.natAbs
 own:Own 128 w lo x.a x.n x.c (dgi z.natAbs)
structure XN (w:World) (x:NV):Prop where
 ex:∃ o,Rd w x.a x.n o/\¬okN x.s x.n o
 le:x.n<=x.c
theorem KN.below {w w':World} {x:NV} {z:Int} (h:KN w x z) (hb:Below w.heap.size w w'):KN w' x z:=⟨h.s,h.n,h.rd.below hb,h.le⟩
theorem DN.below {w w':World} {lo:Nat} {x:NV} {z:Int} (h:DN w lo x z) (hb:Below w.heap.size w w'):DN w' lo x z:=⟨h.s,h.n,h.own.below hb⟩
theorem XN.below {w w':World} {x:NV} (h:XN w x) (hb:Below w.heap.size w w'):XN w' x:=by
 obtain⟨o,hr,hk⟩:=h.ex;exact⟨⟨o,hr.below hb,hk⟩,h.le⟩
theorem DN.mono {w:World} {lo lo':Nat} {x:NV} {z:Int} (h:DN w lo x z) (hl:lo'<=lo):DN w lo' x z:=⟨h.s,h.n,h.own.mono hl⟩
theorem DN.k {w:World} {lo:Nat} {x:NV} {z:Int} (h:DN w lo x z):KN w x z:=⟨h.s,h.n,h.own.rd,h.own.le⟩
theorem KN.r {w:World} {x:NV} {z:Int} (h:KN w x z):x.v=numC z x.a x.c/\NumR w z x.a x.c:=by
 refine⟨?_,⟨by rw[<- h.n];exact h.rd,by rw[<- h.n];exact h.le⟩⟩;show Value.agg #[.bool x.s,.slice x.a x.n x.c]=_;rw[h.s,h.n]
theorem KN.any {w:World} {x:NV} {z:Int} (h:KN w x z):AN w x z:=by
 have h2:=h.r.2.any;rw[<- h.s,<- h.n] at h2;exact h2
theorem XN.any {w:World} {x:NV} (h:XN w x):AN w x 0:=by
 obtain⟨o,hr,hk⟩:=h.ex;exact⟨⟨o,hr,by unfold valN;rw[if_neg hk]⟩,h.le⟩
theorem KN.len {w:World} {x:NV} {z:Int} {k m:Nat} (h:KN w x z) (hz:lenB z.natAbs<=k) (hk:k<=m):x.n<=m:=by rw[h.n];omega
theorem KN.raw {w:World} {s:Bool} {a:Option Addr} {n c:Nat} {o:Nat->Int} (h:Rd w a n o) (hc:n<=c) (hk:okN s n o):KN w ⟨s,a,n,c⟩ (valN s n o):=by
 obtain⟨f1,f2,f3⟩:=of_facts s n o hk h.rng;exact⟨f1.symm,f2.symm,h.congr f3,hc⟩
theorem KN.zero (w:World) (a:Option Addr) (c:Nat):KN w ⟨false,a,0,c⟩ 0:=by
 refine⟨rfl,?_,Rd.nil w a _,Nat.zero_le _⟩;exact lenB_zero.symm
def RNN (w:World) (q r c:Int) (e:Ending) (w':World):Prop:=∃ x y:NV,e=.returned (.tuple #[x.v,y.v,.int .i64 c])/\DN w' w.heap.size x q/\DN w' w.heap.size y r/\Below w.heap.size w w'
theorem RNN.zero {w:World} {c:Int} {e:Ending} {w':World} (h:e=.returned (.tuple #[numV false none 0 0,numV false none 0 0,.int .i64 c])/\Below w.heap.size w w'):RNN w 0 0 c e w':=by
 obtain⟨rfl,hb⟩:=h;have h0:DN w' w.heap.size ⟨false,none,0,0⟩ 0:=⟨rfl,lenB_zero.symm,⟨zj,Or.inl ⟨rfl,rfl,rfl⟩,fun i h=>absurd h (Nat.not_lt_zero i)⟩⟩;exact⟨_,_,rfl,h0,h0,hb⟩
open Classical in
theorem sameN {w:World} {x y:NV} {p q:Int} (h1:KN w x p) (b1:x.n<=10000000) (h2:KN w y q) (b2:y.n<=10000000):Calls Tryz.prog 114 #[x.v,y.v] w fun e w'=>e=.returned (.bool (decide (p=q)))/\Below w.heap.size w w':=by
 have k1:=h1.r;have k2:=h2.r;rw[k1.1,k2.1];exact sameC k1.2 (by rw[<- h1.n];exact b1) k2.2 (by rw[<- h2.n];exact b2)
theorem sameTN {w:World} {x y:NV} {p q:Int} (h1:KN w x p) (b1:x.n<=10000000) (h2:KN w y q) (b2:y.n<=10000000) (e:p=q):Calls Tryz.prog 114 #[x.v,y.v] w fun e w'=>e=.returned (.bool true)/\Below w.heap.size w w':=by
 have h:=sameN h1 b1 h2 b2;rw[decide_eq_true e] at h;exact h
def NV.blk (x:NV) (b:Nat):Prop:=∃ p:Addr,x.a=some p/\p.block=b
theorem Own.kept {w w':World} {lo:Nat} {a:Option Addr} {n c:Nat} {o:Nat->Int} (h:Own 128 w lo a n c o) (hk:∀ b,(∃ p:Addr,a=some p/\p.block=b)->w'.heap[b]?=w.heap[b]?):Own 128 w' lo a n c o :=
 ⟨h.le,h.place.imp id fun ⟨g,cur,ha,hg,hc,hr⟩=>⟨g,cur,ha,hg,(hk g ⟨_,ha,rfl⟩).trans hc,hr⟩,h.rng⟩
theorem DN.kept {w w':World} {lo:Nat} {x:NV} {z:Int} (h:DN w lo x z) (hk:∀ b,x.blk b->w'.heap[b]?=w.heap[b]?):DN w' lo x z:=⟨h.s,h.n,h.own.kept hk⟩
theorem DN.blks {w:World} {lo:Nat} {x:NV} {z:Int} (h:DN w lo x z):∀ b,x.blk b->lo<=b/\b<w.heap.size:=fun b ⟨p,hp,e⟩=>by
 have h1:=h.own.blk hp;rw[<- e];exact h1.2
structure NV2 where
 p:NV
 q:NV
abbrev NV2.v (c:Int) (x:NV2):Value:=.tuple #[x.p.v,x.q.v,.int .i64 c]
theorem NV2.inj (c:Int) (x y:NV2) (h:x.v c=y.v c):x=y:=by
 simp only[Value.tuple.injEq,Array.mk.injEq,List.cons.injEq,and_true] at h
 cases x;cases y
 have h1:=NV.inj h.1;have h2:=NV.inj h.2;dsimp only at h1 h2;rw[h1,h2]
theorem Shaped.trans {a b c:World} (h:FS.Shaped a b) (k:FS.Shaped b c):FS.Shaped a c:=by
 refine⟨zm h.size k.size,fun i x T hx=>?_⟩;obtain⟨y,hy,e⟩:=h.shape i x T hx;obtain⟨z,hz,f⟩:=k.shape i y T hy;exact⟨z,hz,f.trans e⟩
theorem Own.setBxs {w:World} {lo:Nat} {a:Option Addr} {n c:Nat} {o:Nat->Int} (h:Own 128 w lo a n c o) {g:Nat} {t:TypeId} {l:List Value} (hb:Bxs w g t l) (ht:128≠t) (i:Nat) (v:Value):Own 128 (w.setCell ⟨g,i,none⟩ v) lo a n c o:=by
 refine⟨h.le,h.place.imp id fun ⟨p,cur,ha,hg,hc,hr⟩=>⟨p,cur,ha,hg,?_,hr⟩,h.rng⟩;rw[Below.heap_setCell _ _ _ _ ?_]
 ·exact hc
 ·intro e;have e:p=g:=e;subst e;have hb':w.heap[p]?=some (.cells l.toArray t (0,0)):=hb;rw[hc] at hb'
  cases hb'
  exact ht rfl
theorem DN.setBxs {w:World} {lo:Nat} {x:NV} {z:Int} (h:DN w lo x z) {g:Nat} {t:TypeId} {l:List Value} (hb:Bxs w g t l) (ht:128≠t) (i:Nat) (v:Value):DN (w.setCell ⟨g,i,none⟩ v) lo x z:=⟨h.s,h.n,h.own.setBxs hb ht i v⟩
structure FV where
 t:NV
 l:NV
abbrev FV.v (x:FV):Value:=.agg #[.bool x.t.s,.slice x.t.a x.t.n x.t.c,.bool x.l.s,.slice x.l.a x.l.n x.l.c]
theorem FV.inj {x y:FV} (h:x.v=y.v):x=y:=by
 obtain⟨⟨a,b,c,d⟩,⟨e,f,g,i⟩⟩:=x;obtain⟨⟨a',b',c',d'⟩,⟨e',f',g',i'⟩⟩:=y;simp only[Value.agg.injEq,Array.mk.injEq,List.cons.injEq,Value.bool.injEq,Value.slice.injEq,and_true] at h;obtain⟨rfl,⟨rfl,rfl,rfl⟩,rfl,rfl,rfl,rfl⟩:=h;rfl
structure AF (w:World) (x:FV) (q:Rat):Prop where
 ex:∃ o1 o2,Rd w x.t.a x.t.n o1/\Rd w x.l.a x.l.n o2/\valF x.t.s x.t.n o1 x.l.s x.l.n o2=q
 l1:x.t.n<=x.t.c
 l2:x.l.n<=x.l.c
structure KF (w:World) (x:FV) (q:Rat):Prop where
 t:KN w x.t q.num
 l:KN w x.l (q.den:Int)
structure DF (w:World) (lo:Nat) (x:FV) (q:Rat):Prop where
 t:DN w lo x.t q.num
 l:DN w lo x.l (q.den:Int)
 ap:Apart2 x.t.a x.l.a
structure BF (w:World) (x:FV):Prop where
 ex:∃ o1 o2,Rd w x.t.a x.t.n o1/\Rd w x.l.a x.l.n o2/\¬okF x.t.s x.t.n o1 x.l.s x.l.n o2
 l1:x.t.n<=x.t.c
 l2:x.l.n<=x.l.c
abbrev LF (x:FV) (k:Nat):Prop:=x.t.n<=k/\x.l.n<=k
structure LQ (q:Rat) (k:Nat):Prop where
 t:lenB q.num.natAbs<=k
 l:lenB (q.den:Int).natAbs<=k
theorem AF.below {w w':World} {x:FV} {q:Rat} (h:AF w x q) (hb:Below w.heap.size w w'):AF w' x q:=by
 obtain⟨o1,o2,h1,h2,h3⟩:=h.ex;exact⟨⟨o1,o2,h1.below hb,h2.below hb,h3⟩,h.l1,h.l2⟩
theorem KF.below {w w':World} {x:FV} {q:Rat} (h:KF w x q) (hb:Below w.heap.size w w'):KF w' x q:=⟨h.t.below hb,h.l.below hb⟩
theorem DF.below {w w':World} {lo:Nat} {x:FV} {q:Rat} (h:DF w lo x q) (hb:Below w.heap.size w w'):DF w' lo x q:=⟨h.t.below hb,h.l.below hb,h.ap⟩
theorem BF.below {w w':World} {x:FV} (h:BF w x) (hb:Below w.heap.size w w'):BF w' x:=by
 obtain⟨o1,o2,h1,h2,h3⟩:=h.ex;exact⟨⟨o1,o2,h1.below hb,h2.below hb,h3⟩,h.l1,h.l2⟩
theorem DF.mono {w:World} {lo lo':Nat} {x:FV} {q:Rat} (h:DF w lo x q) (hl:lo'<=lo):DF w lo' x q:=⟨h.t.mono hl,h.l.mono hl,h.ap⟩
theorem DF.k {w:World} {lo:Nat} {x:FV} {q:Rat} (h:DF w lo x q):KF w x q:=⟨h.t.k,h.l.k⟩
theorem DF.setBxs {w:World} {lo:Nat} {x:FV} {q:Rat} (h:DF w lo x q) {g:Nat} {t:TypeId} {l:List Value} (hb:Bxs w g t l) (ht:128≠t) (i:Nat) (v:Value):DF (w.setCell ⟨g,i,none⟩ v) lo x q:=⟨h.t.setBxs hb ht i v,h.l.setBxs hb ht i v,h.ap⟩
theorem KF.any {w:World} {x:FV} {q:Rat} (h:KF w x q):AF w x q:=by
 refine⟨⟨_,_,h.t.rd,h.l.rd,?_⟩,h.t.le,h.l.le⟩;rw[h.t.s,h.t.n,h.l.s,h.l.n];exact valF_canon q
theorem BF.any {w:World} {x:FV} (h:BF w x):AF w x 0:=by
 obtain⟨o1,o2,h1,h2,h3⟩:=h.ex;exact⟨⟨o1,o2,h1,h2,valF_not h3⟩,h.l1,h.l2⟩
theorem KF.len {w:World} {x:FV} {q:Rat} {k m:Nat} (h:KF w x q) (hz:LQ q k) (hk:k<=m):LF x m:=⟨h.t.len hz.t hk,h.l.len hz.l hk⟩
theorem LQ.up {q:Rat} {k m:Nat} (h:LQ q k) (hk:k<=m):LQ q m:=⟨zm h.t hk,zm h.l hk⟩
theorem LF.up {x:FV} {k m:Nat} (h:LF x k) (hk:k<=m):LF x m:=⟨zm h.1 hk,zm h.2 hk⟩
theorem LQ.add {x y:Rat} {k m:Nat} (h1:LQ x k) (h2:LQ y k) (hm:2*k+1<=m):LQ (x+y) m:=by
 have h:=add_len h1.t h1.l h2.t h2.l;exact⟨by omega,by omega⟩
theorem LQ.mul {x y:Rat} {k m:Nat} (h1:LQ x k) (h2:LQ y k) (hm:2*k<=m):LQ (x*y) m:=by
 have h:=mul_len h1.t h1.l h2.t h2.l;exact⟨by omega,by omega⟩
theorem LQ.int {n:Int} (h1:-9223372036854775808<=n) (h2:n<=9223372036854775807):LQ (n:Rat) 3:=⟨by rw[Rat.num_intCast];exact len1 h1 h2,by rw[Rat.den_intCast];exact len1 (by decide) (by decide)⟩
theorem KF.raw {w:World} {s1:Bool} {a1:Option Addr} {n1 c1:Nat} {o1:Nat->Int} {s2:Bool} {a2:Option Addr} {n2 c2:Nat} {o2:Nat->Int} (h1:Rd w a1 n1 o1) (hc1:n1<=c1) (h2:Rd w a2 n2 o2) (hc2:n2<=c2) (hk:okF s1 n1 o1 s2 n2 o2):KF w ⟨⟨s1,a1,n1,c1⟩,⟨s2,a2,n2,c2⟩⟩ (valF s1 n1 o1 s2 n2 o2):=by
 obtain⟨e1,e2⟩:=valF_ok hk;refine⟨?_,?_⟩
 ·rw[e1];exact KN.raw h1 hc1 hk.1
 ·rw[e2];exact KN.raw h2 hc2 hk.2.1
theorem BF.raw {w:World} {s1:Bool} {a1:Option Addr} {n1 c1:Nat} {o1:Nat->Int} {s2:Bool} {a2:Option Addr} {n2 c2:Nat} {o2:Nat->Int} (h1:Rd w a1 n1 o1) (hc1:n1<=c1) (h2:Rd w a2 n2 o2) (hc2:n2<=c2) (hk:¬okF s1 n1 o1 s2 n2 o2):BF w ⟨⟨s1,a1,n1,c1⟩,⟨s2,a2,n2,c2⟩⟩:=⟨⟨o1,o2,h1,h2,hk⟩,hc1,hc2⟩
theorem AF.len {w:World} {x:FV} {q:Rat} {k:Nat} (h:AF w x q) (hl:LF x k):LQ q (k+1):=by
 obtain⟨o1,o2,h1,h2,h3⟩:=h.ex;have h4:=valF_len (s1:=x.t.s) (s2:=x.l.s) h1.rng h2.rng;rw[h3] at h4;exact⟨by omega,by omega⟩
def RF (w:World) (q:Rat) (e:Ending) (w':World):Prop:=∃ x:FV,e=.returned x.v/\DF w' w.heap.size x q/\Below w.heap.size w w'
theorem FracR.rf {w:World} {q:Rat} {e:Ending} {w':World} (h:FracR w q.num (q.den:Int) e w'):RF w q e w':=by
 obtain⟨a1,a2,rfl,h1,h2,ap,hb⟩:=h;exact⟨⟨⟨_,a1,_,_⟩,⟨_,a2,_,_⟩⟩,rfl,⟨⟨rfl,rfl,h1⟩,⟨rfl,rfl,h2⟩,ap⟩,hb⟩
theorem qadd {w:World} {x y:FV} {p q:Rat} (h1:AF w x p) (b1:LF x 900000) (h2:AF w y q) (b2:LF y 900000):Calls Tryz.prog 109 #[x.v,y.v] w (RF w (p+q)):=by
 obtain⟨o1,o2,r1,r2,e1⟩:=h1.ex;obtain⟨o3,o4,r3,r4,e2⟩:=h2.ex
 exact(fadd_any x.t.s x.t.a x.t.n x.t.c o1 x.l.s x.l.a x.l.n x.l.c o2 y.t.s y.t.a y.t.n y.t.c o3 y.l.s y.l.a y.l.n y.l.c o4 w p q e1.symm e2.symm r1 (by omega) h1.l1 r2 (by omega) h1.l2 r3 (by omega) h2.l1 r4 (by omega) h2.l2).mono fun _ _ h=>FracR.rf h
theorem qmul {w:World} {x y:FV} {p q:Rat} (h1:AF w x p) (b1:LF x 900000) (h2:AF w y q) (b2:LF y 900000):Calls Tryz.prog 34 #[x.v,y.v] w (RF w (p*q)):=by
 obtain⟨o1,o2,r1,r2,e1⟩:=h1.ex;obtain⟨o3,o4,r3,r4,e2⟩:=h2.ex
 exact(fmul_any x.t.s x.t.a x.t.n x.t.c o1 x.l.s x.l.a x.l.n x.l.c o2 y.t.s y.t.a y.t.n y.t.c o3 y.l.s y.l.a y.l.n y.l.c o4 w p q e1.symm e2.symm r1 (by omega) h1.l1 r2 (by omega) h1.l2 r3 (by omega) h2.l1 r4 (by omega) h2.l2).mono fun _ _ h=>FracR.rf h
theorem qof (n:Int) (w:World) (h1:-9223372036854775808<=n) (h2:n<=9223372036854775807):Calls Tryz.prog 35 #[.int .i64 n] w (RF w (n:Rat)) :=
 (fof_any n w h1 h2).mono fun _ _ h=>FracR.rf (by rw[Rat.num_intCast,Rat.den_intCast];exact h)
theorem qsign {w:World} {x:FV} {p:Rat} (h1:AF w x p) (b1:LF x 900000):Calls Tryz.prog 110 #[x.v] w fun e w'=>e=.returned (.int .i64 (cmpZ p.num 0))/\Below w.heap.size w w':=by
 obtain⟨o1,o2,r1,r2,e1⟩:=h1.ex;exact fsign_any x.t.s x.t.a x.t.n x.t.c o1 x.l.s x.l.a x.l.n x.l.c o2 w p e1.symm r1 (by omega) h1.l1 r2 (by omega) h1.l2
open Classical in
theorem qcheck {w:World} {x:FV} {p:Rat} (h1:KF w x p) (b1:LF x 900000):Calls Tryz.prog 142 #[x.v] w fun e w'=>e=.returned (.bool true)/\Below w.heap.size w w':=by
 have h:=fcheck_any x.t.s x.t.a x.t.n x.t.c _ x.l.s x.l.a x.l.n x.l.c _ w h1.t.rd (by omega) h1.t.le h1.l.rd (by omega) h1.l.le;rw[decide_eq_true (by rw[h1.t.s,h1.t.n,h1.l.s,h1.l.n];exact okF_canon p)] at h;exact h
open Classical in
theorem qcheckB {w:World} {x:FV} (h1:BF w x) (b1:LF x 900000):Calls Tryz.prog 142 #[x.v] w fun e w'=>e=.returned (.bool false)/\Below w.heap.size w w':=by
 obtain⟨o1,o2,r1,r2,hk⟩:=h1.ex;have h:=fcheck_any x.t.s x.t.a x.t.n x.t.c o1 x.l.s x.l.a x.l.n x.l.c o2 w r1 (by omega) h1.l1 r2 (by omega) h1.l2;rw[zo hk] at h;exact h
def FV.blk (x:FV) (b:Nat):Prop:=x.t.blk b\/x.l.blk b
theorem DF.kept {w w':World} {lo:Nat} {x:FV} {q:Rat} (h:DF w lo x q) (hk:∀ b,x.blk b->w'.heap[b]?=w.heap[b]?):DF w' lo x q:=⟨h.t.kept fun b hb=>hk b (Or.inl hb),h.l.kept fun b hb=>hk b (Or.inr hb),h.ap⟩
theorem DF.blks {w:World} {lo:Nat} {x:FV} {q:Rat} (h:DF w lo x q):∀ b,x.blk b->lo<=b/\b<w.heap.size:=fun b hb=>hb.elim (h.t.blks b) (h.l.blks b)
end Limb
namespace Limb
structure LS (q:Rat) (a b:Nat):Prop where
 t:lenB q.num.natAbs<=a
 l:lenB (q.den:Int).natAbs<=b
theorem LS.up {q:Rat} {a b c d:Nat} (h:LS q a b) (h1:a<=c) (h2:b<=d):LS q c d:=⟨zm h.t h1,zm h.l h2⟩
theorem LS.lq {q:Rat} {a b k:Nat} (h:LS q a b) (h1:a<=k) (h2:b<=k):LQ q k:=⟨zm h.t h1,zm h.l h2⟩
theorem LQ.ls {q:Rat} {k:Nat} (h:LQ q k):LS q k k:=⟨h.t,h.l⟩
theorem LS.add {x y:Rat} {a b c d:Nat} (h1:LS x a b) (h2:LS y c d) {u v:Nat} (hu1:a+d+1<=u) (hu2:c+b+1<=u) (hv:b+d<=v):LS (x+y) u v:=by
 rw[<- rat_add x y];have h:=divInt_len (x.num*(y.den:Int)+y.num*(x.den:Int)) ((x.den:Int)*(y.den:Int)) (Int.ne_of_gt (Int.mul_pos (rat_pos x) (rat_pos y)));have hl1:=lenB_mul_le x.num.natAbs (y.den:Int).natAbs;have hl2:=lenB_mul_le y.num.natAbs (x.den:Int).natAbs;have hl3:=lenB_mul_le (x.den:Int).natAbs (y.den:Int).natAbs;rw[<- Int.natAbs_mul] at hl1 hl2 hl3;have h3:=h1.t;have h4:=h1.l;have h5:=h2.t;have h6:=h2.l;have hl5:=lenB_add (x.num*(y.den:Int)) (y.num*(x.den:Int));exact⟨zm h.1 (by omega),zm h.2 (by omega)⟩
theorem LS.mul {x y:Rat} {a b c d:Nat} (h1:LS x a b) (h2:LS y c d):LS (x*y) (a+c) (b+d):=by
 have e:Rat.divInt (x.num*y.num) ((x.den:Int)*(y.den:Int))=x*y:=by rw[Rat.mul_def',<- Rat.divInt_ofNat,Int.natCast_mul]
 rw[<- e];have h:=divInt_len (x.num*y.num) ((x.den:Int)*(y.den:Int)) (Int.ne_of_gt (Int.mul_pos (rat_pos x) (rat_pos y)));have hl1:=lenB_mul_le x.num.natAbs y.num.natAbs;have hl3:=lenB_mul_le (x.den:Int).natAbs (y.den:Int).natAbs;rw[<- Int.natAbs_mul] at hl1 hl3;have h3:=h1.t;have h4:=h1.l;have h5:=h2.t;have h6:=h2.l;exact⟨zm h.1 (by omega),zm h.2 (by omega)⟩
theorem LS.zero:LS 0 0 1:=⟨by decide +kernel,by decide +kernel⟩
structure NQ (q:Rat) (j k:Nat):Prop where
 ls:LS q (j*(k+1)) (j*k)
theorem NQ.one {q:Rat} {k:Nat} (h:LQ q k):NQ q 1 k:=⟨⟨by have:=h.t;omega,by have:=h.l;omega⟩⟩
theorem NQ.add {x y:Rat} {i j k:Nat} (h1:NQ x i k) (h2:NQ y j k) (hi:0<i) (hj:0<j):NQ (x+y) (i+j) k:=by
 refine⟨h1.ls.add h2.ls ?_ ?_ ?_⟩
 ·rw[Nat.add_mul,Nat.mul_add j k 1];omega
 ·rw[Nat.add_mul,Nat.mul_add i k 1];omega
 ·rw[Nat.add_mul];omega
theorem NQ.lq {x:Rat} {j k m:Nat} (h:NQ x j k) (hm:j*(k+1)<=m):LQ x m:=h.ls.lq hm (by rw[Nat.mul_add] at hm;omega)
theorem NQ.up {x:Rat} {i j k:Nat} (h:NQ x i k) (hij:i<=j):NQ x j k:=⟨h.ls.up (Nat.mul_le_mul_right _ hij) (Nat.mul_le_mul_right _ hij)⟩
open Go.RowKit Go.Sort
theorem LQ.make {p q:Int} {k:Nat} (hq:q≠0) (h1:lenB p.natAbs<=k) (h2:lenB q.natAbs<=k):LQ ((p:Rat)/(q:Rat)) k:=by
 rw[<- Rat.divInt_eq_div];have h:=divInt_len p q hq;exact⟨by omega,by omega⟩
theorem LQ.of {n d:Int} (h1:-9223372036854775808<=n) (h2:n<=9223372036854775807) (h3:-9223372036854775808<=d) (h4:d<=9223372036854775807) (hd:d≠0):LQ ((n:Rat)/(d:Rat)) 3:=LQ.make hd (len1 h1 h2) (len1 h3 h4)
theorem KF.lq {w:World} {x:FV} {q:Rat} {k:Nat} (h:KF w x q) (b:LF x k):LQ q k:=⟨by rw[<- h.t.n];exact b.1,by rw[<- h.l.n];exact b.2⟩
theorem qsameFr {w:World} {x1 x2:FV} {p1 p2:Rat} (h1:KF w x1 p1) (b1:LF x1 900000) (h2:KF w x2 p2) (b2:LF x2 900000) (e:p1=p2):Calls Tryz.prog 41 #[x1.v,x2.v] w fun e w'=>e=.returned (.bool true)/\Below w.heap.size w w':=by
 have KG:=qh (Below.refl w.heap.size w);have N1:=qh h1;have N2:=qh h2;have LQp1:=qh (h1.lq b1);have LQp2:=qh (h2.lq b2);have HE:=qh e;clear h1 h2 b1 b2 e;go_enter Tryz.func41,Tryz.ntmps41
 go_upto_region 1 with (fail)
 obtain⟨v3,hV⟩:∃ V,V=(w.alloc (.cells #[.bool x1.t.s,.slice x1.t.a x1.t.n x1.t.c,.bool x1.l.s,.slice x1.l.a x1.l.n x1.l.c] 32)).alloc (.cells #[.bool x2.t.s,.slice x2.t.a x2.t.n x2.t.c,.bool x2.l.s,.slice x2.l.a x2.l.n x2.l.c] 32):=⟨_,rfl⟩
 have hbV:Below w.heap.size w v3:=by rw[hV];exact((zk.alloc zj _).alloc (by go_size) _)
 have BX1:=qh (show Bxs v3 (w.heap.size) 32 [.bool x1.t.s,.slice x1.t.a x1.t.n x1.t.c,.bool x1.l.s,.slice x1.l.a x1.l.n x1.l.c] by have h:=(Bxs.new (w) 32 [.bool x1.t.s,.slice x1.t.a x1.t.n x1.t.c,.bool x1.l.s,.slice x1.l.a x1.l.n x1.l.c]).alloc (.cells #[.bool x2.t.s,.slice x2.t.a x2.t.n x2.t.c,.bool x2.l.s,.slice x2.l.a x2.l.n x2.l.c] 32);rw[hV];exact h);have BX2:=qh (show Bxs v3 (w.heap.size+1) 32 [.bool x2.t.s,.slice x2.t.a x2.t.n x2.t.c,.bool x2.l.s,.slice x2.l.a x2.l.n x2.l.c] by have h:=Bxs.new (w.alloc (.cells #[.bool x1.t.s,.slice x1.t.a x1.t.n x1.t.c,.bool x1.l.s,.slice x1.l.a x1.l.n x1.l.c] 32)) 32 [.bool x2.t.s,.slice x2.t.a x2.t.n x2.t.c,.bool x2.l.s,.slice x2.l.a x2.l.n x2.l.c];simp only[World.size_alloc] at h;rw[hV];exact h);rw[show(w.alloc (.cells #[.bool x1.t.s,.slice x1.t.a x1.t.n x1.t.c,.bool x1.l.s,.slice x1.l.a x1.l.n x1.l.c] 32)).alloc (.cells #[.bool x2.t.s,.slice x2.t.a x2.t.n x2.t.c,.bool x2.l.s,.slice x2.l.a x2.l.n x2.l.c] 32)=v3 from hV.symm];have KG:=qk KG hbV;clear hV hbV;have cBX10:=BX1.o.ce 0;have cBX11:=BX1.o.ce 1;have cBX12:=BX1.o.ce 2;have cBX13:=BX1.o.ce 3;have cBX1f:=BX1.o.fz;have cBX1l:=BX1.o.lt;have cBX20:=BX2.o.ce 0;have cBX21:=BX2.o.ce 1;have cBX22:=BX2.o.ce 2;have cBX23:=BX2.o.ce 3;have cBX2f:=BX2.o.fz;have cBX2l:=BX2.o.lt;go_wp2_with fail
 have CT:=qh (sameTN ((N1.o.below KG.o)).t (((N1.o.below KG.o)).t.len (qh LQp1.o.t).o (by decide)) ((N2.o.below KG.o)).t (((N2.o.below KG.o)).t.len (qh LQp2.o.t).o (by decide)) (by rw[HE.o]));with_reducible refine CT.o.mono ?_
 rintro e w4 ⟨rfl,hb⟩;clear CT;clear cBX10 cBX11 cBX12 cBX13 cBX1f cBX1l;clear cBX20 cBX21 cBX22 cBX23 cBX2f cBX2l;have BX1:=qh (BX1.o.bl hb);have BX2:=qh (BX2.o.bl hb);have KG:=qk KG hb;clear hb;have cBX10:=BX1.o.ce 0;have cBX11:=BX1.o.ce 1;have cBX12:=BX1.o.ce 2;have cBX13:=BX1.o.ce 3;have cBX1f:=BX1.o.fz;have cBX1l:=BX1.o.lt;have cBX20:=BX2.o.ce 0;have cBX21:=BX2.o.ce 1;have cBX22:=BX2.o.ce 2;have cBX23:=BX2.o.ce 3;have cBX2f:=BX2.o.fz;have cBX2l:=BX2.o.lt;go_wp2_with fail
 have CT:=qh (sameTN ((N1.o.below KG.o)).l (((N1.o.below KG.o)).l.len (qh LQp1.o.l).o (by decide)) ((N2.o.below KG.o)).l (((N2.o.below KG.o)).l.len (qh LQp2.o.l).o (by decide)) (by rw[HE.o]));with_reducible refine CT.o.mono ?_
 rintro e w5 ⟨rfl,hb⟩;clear CT;clear cBX10 cBX11 cBX12 cBX13 cBX1f cBX1l;clear cBX20 cBX21 cBX22 cBX23 cBX2f cBX2l;clear BX1;clear BX2;have KG:=qk KG hb;clear hb;go_wp2_with fail
 go_ret;exact⟨rfl,KG.o⟩
end Limb
namespace Pol
open Limb
def Mo.le (m:Mo) (e:Nat):Prop:=m.x<=e/\m.y<=e/\m.z<=e/\m.t<=e
theorem Mo.le.up {m:Mo} {d e:Nat} (h:m.le d) (k:d<=e):m.le e:=⟨zm h.1 k,zm h.2.1 k,zm h.2.2.1 k,zm h.2.2.2 k⟩
theorem Mo.le.mul {m n:Mo} {d e:Nat} (h:m.le d) (k:n.le e):(m.mul n).le (d+e):=by
 obtain⟨h1,h2,h3,h4⟩:=h;obtain⟨k1,k2,k3,k4⟩:=k;exact⟨Nat.add_le_add h1 k1,Nat.add_le_add h2 k2,Nat.add_le_add h3 k3,Nat.add_le_add h4 k4⟩
structure PB (P:List Tm) (n k e:Nat):Prop where
 len:P.length<=n
 lq:∀ t∈P,LQ t.2 k
 ex:∀ t∈P,t.1.le e
theorem PB.up {P:List Tm} {n k e n' k' e':Nat} (h:PB P n k e) (hn:n<=n') (hk:k<=k') (he:e<=e'):PB P n' k' e' :=
 ⟨zm h.len hn,fun t ht=>(h.lq t ht).up hk,fun t ht=>(h.ex t ht).up he⟩
theorem PB.nil (n k e:Nat):PB [] n k e:=⟨Nat.zero_le _,fun _ h=>(by cases h),fun _ h=>(by cases h)⟩
theorem PB.append {P Q:List Tm} {n m k e:Nat} (h:PB P n k e) (g:PB Q m k e):PB (P++Q) (n+m) k e :=
 ⟨by rw[List.length_append];exact Nat.add_le_add h.len g.len,fun t ht=>(List.mem_append.1 ht).elim (h.lq t) (g.lq t),fun t ht=>(List.mem_append.1 ht).elim (h.ex t) (g.ex t)⟩
theorem cf_nq {k:Nat} (m:Mo):∀ {L:List Tm},(∀ t∈L,LQ t.2 k)->cf L m=0\/∃ j,0<j/\j<=L.length/\NQ (cf L m) j k
 | [],_=>Or.inl rfl
 | t :: r,h=>by
  rw[cf_cons];have ht:=h t (List.mem_cons_self ..)
  rcases cf_nq m (L:=r) (fun s hs=>h s (List.mem_cons_of_mem _ hs)) with h0 | ⟨j,h1,h2,h3⟩
  ·rw[h0,Rat.add_zero];split
   ·exact Or.inr ⟨1,by omega,by rw[List.length_cons];omega,NQ.one ht⟩
   ·exact Or.inl rfl
  ·split
   ·exact Or.inr ⟨1+j,by omega,by rw[List.length_cons];omega,(NQ.one ht).add h3 (by omega) h1⟩
   ·rw[Rat.zero_add];exact Or.inr ⟨j,h1,by rw[List.length_cons];omega,h3⟩
theorem ins_length (t:Tm):∀ l:List Tm,(ins t l).length<=l.length+1
 | []=>by unfold ins;split <;> simp
 | s :: r=>by
  unfold ins;have:=ins_length t r;split
  ·split <;> simp <;> omega
  ·split
   ·split <;> simp
   ·simp;omega
theorem nf_length:∀ l:List Tm,(nf l).length<=l.length
 | []=>zj
 | t :: l=>by
  have h1:=ins_length t (nf l);have h2:=nf_length l;show(ins t (nf l)).length<=l.length+1;omega
theorem nf_mem {t:Tm} {L:List Tm} (h:t∈nf L):t.2=cf L t.1/\∃ s∈L,s.1=t.1:=by
 have h1:=(nf_canon L).cf_mem h;rw[nf_cf] at h1;refine⟨h1.symm,?_⟩
 refine Classical.byContradiction fun hn=>(nf_canon L).non t h ?_
 rw[<- h1]
 exact cf_none fun s hs e=>hn ⟨s,hs,e⟩
theorem PB.nf {L:List Tm} {n k e:Nat} (h:PB L n k e):PB (nf L) n (n*(k+1)) e:=by
 refine⟨zm (nf_length L) h.len,fun t ht=>?_,fun t ht=>?_⟩
 ·obtain⟨h1,-⟩:=nf_mem ht
  rcases cf_nq t.1 h.lq with h0 | ⟨j,h2,h3,h4⟩
  ·exact absurd (h1.trans h0) ((nf_canon L).non t ht)
  ·rw[h1];exact h4.lq (Nat.mul_le_mul_right _ (zm h3 h.len))
 ·obtain⟨-,s,hs,e1⟩:=nf_mem ht;rw[<- e1];exact h.ex s hs
theorem canon_cf {P:List Tm} (h:Canon P) {k:Nat} (hk:∀ t∈P,LQ t.2 k) (m:Mo):cf P m=0\/LQ (cf P m) k:=by
 by_cases h0:cf P m=0
 ·exact Or.inl h0
 ·obtain⟨c,hc⟩:=Canon.mem_cf h0;have:=h.cf_mem hc;rw[this];exact Or.inr (hk _ hc)
theorem PB.add {P Q:List Tm} {n1 n2 k e:Nat} (hP:Canon P) (hQ:Canon Q) (h1:PB P n1 k e) (h2:PB Q n2 k e):PB (addP P Q) (n1+n2) (2*k+1) e:=by
 have h:=(h1.append h2).nf;refine⟨h.len,fun t ht=>?_,h.ex⟩;obtain⟨e1,-⟩:=nf_mem ht;rw[cf_append] at e1;rw[e1]
 rcases canon_cf hP h1.lq t.1 with h3 | h3 <;> rcases canon_cf hQ h2.lq t.1 with h4 | h4
 ·rw[h3,h4,Rat.zero_add] at e1;exact absurd e1 ((nf_canon _).non t ht)
 ·rw[h3,Rat.zero_add];exact h4.up (by omega)
 ·rw[h4,Rat.add_zero];exact h3.up (by omega)
 ·exact h3.add h4 (by omega)
theorem mulL_length (P Q:List Tm):(mulL P Q).length=P.length*Q.length:=by
 induction P with
 | nil=>simp[mulL]
 | cons s P ih =>
  show((Q.map _)++mulL P Q).length=_;rw[List.length_append,ih,List.length_map,List.length_cons,Nat.add_mul];omega
theorem mem_mulL {P Q:List Tm} {u:Tm} (h:u∈mulL P Q):∃ s∈P,∃ t∈Q,u=(s.1.mul t.1,s.2*t.2):=by
 obtain⟨s,hs,h1⟩:=List.mem_flatMap.1 h;obtain⟨t,ht,rfl⟩:=List.mem_map.1 h1;exact⟨s,hs,t,ht,rfl⟩
theorem PB.mulL {P Q:List Tm} {n1 k1 e1 n2 k2 e2:Nat} (h1:PB P n1 k1 e1) (h2:PB Q n2 k2 e2):PB (mulL P Q) (n1*n2) (k1+k2) (e1+e2):=by
 refine⟨by rw[mulL_length];exact Nat.mul_le_mul h1.len h2.len,fun u hu=>?_,fun u hu=>?_⟩
 ·obtain⟨s,hs,t,ht,rfl⟩:=mem_mulL hu;exact((h1.lq s hs).ls.mul (h2.lq t ht).ls).lq zj zj
 ·obtain⟨s,hs,t,ht,rfl⟩:=mem_mulL hu;exact(h1.ex s hs).mul (h2.ex t ht)
theorem PB.mul {P Q:List Tm} {n1 k1 e1 n2 k2 e2:Nat} (h1:PB P n1 k1 e1) (h2:PB Q n2 k2 e2):PB (mulP P Q) (n1*n2) (n1*n2*(k1+k2+1)) (e1+e2):=(PB.mulL h1 h2).nf
structure Key (E:Nat) (K:Mo->Int):Prop where
 add:∀ a b,a.le E->b.le E->(a.mul b).le E->K (a.mul b)=K a+K b
 inj:∀ a b,a.le E->b.le E->K a=K b->a=b
def Lead (K:Mo->Int) (P:List Tm) (t:Tm):Prop:=t∈P/\∀ s∈P,K s.1<=K t.1
theorem lead_ex (K:Mo->Int):∀ {P:List Tm},P≠[]->∃ t,Lead K P t
 | [],h=>absurd rfl h
 | [t],_=>⟨t,List.mem_singleton.2 rfl,fun s hs=>by rw[List.mem_singleton.1 hs];exact Int.le_refl _⟩
 | t :: u :: r,_=>by
  obtain⟨v,h1,h2⟩:=lead_ex K (P:=u :: r) (by simp);by_cases h:K v.1<=K t.1
  ·exact⟨t,List.mem_cons_self ..,fun s hs=>(List.mem_cons.1 hs).elim (fun e=>by rw[e];exact Int.le_refl _) (fun hs=>Int.le_trans (h2 s hs) h)⟩
  ·exact⟨v,List.mem_cons_of_mem _ h1,fun s hs=>(List.mem_cons.1 hs).elim (fun e=>by rw[e];omega) (fun hs=>h2 s hs)⟩
def Mo.at (m:Mo) (i:Nat):Nat:=if i=0 then m.x else if i=1 then m.y else if i=2 then m.z else m.t
def degP (P:List Tm) (i:Nat):Int:=P.foldl (fun n t=>max n (t.1.at i:Int)) (-1)
theorem fold_max (i:Nat):∀ (P:List Tm) (n:Int),n<=P.foldl (fun n t=>max n (t.1.at i:Int)) n/\(∀ t∈P,(t.1.at i:Int)<=P.foldl (fun n t=>max n (t.1.at i:Int)) n)/\(P.foldl (fun n t=>max n (t.1.at i:Int)) n=n\/∃ t∈P,P.foldl (fun n t=>max n (t.1.at i:Int)) n=t.1.at i)
 | [],n=>⟨Int.le_refl _,fun t h=>(by cases h),Or.inl rfl⟩
 | s :: r,n=>by
  obtain⟨h1,h2,h3⟩:=fold_max i r (max n (s.1.at i:Int));rw[List.foldl_cons];refine⟨by omega,fun t ht=>?_,?_⟩
  ·rcases List.mem_cons.1 ht with rfl | ht
   ·omega
   ·exact h2 t ht
  ·rcases h3 with h3 | ⟨t,ht,h3⟩
   ·by_cases hs:n<=(s.1.at i:Int)
    ·exact Or.inr ⟨s,List.mem_cons_self ..,by omega⟩
    ·exact Or.inl (by omega)
   ·exact Or.inr ⟨t,List.mem_cons_of_mem _ ht,h3⟩
theorem at_mul (a b:Mo) (i:Nat):(a.mul b).at i=a.at i+b.at i:=by
 unfold Mo.at Mo.mul;split
 ·rfl
 split
 ·rfl
 split <;> rfl
theorem lq_zero {k:Nat} (h:0<k):LQ 0 k:=LS.zero.lq (Nat.zero_le _) h
theorem canon_take {P:List Tm} (h:Canon P) (j:Nat):Canon (P.take j):=⟨h.falls.sublist (List.take_sublist j P),fun t ht=>h.non t (List.mem_of_mem_take ht)⟩
def rowL (s:Tm) (B:List Tm):List Tm:=B.map fun t=>(s.1.mul t.1,s.2*t.2)
theorem mulL_cons (s:Tm) (A B:List Tm):mulL (s :: A) B=rowL s B++mulL A B:=rfl
theorem row_cf {s:Tm} {k1 k2:Nat} (hs:LQ s.2 k1) (m:Mo):∀ {B:List Tm},Canon B->(∀ t∈B,LQ t.2 k2)->cf (rowL s B) m=0\/LQ (cf (rowL s B) m) (k1+k2)
 | [],_,_=>Or.inl rfl
 | t :: r,hB,hk=>by
  show cf ((s.1.mul t.1,s.2*t.2) :: rowL s r) m=0\/LQ (cf ((s.1.mul t.1,s.2*t.2) :: rowL s r) m) _;rw[cf_cons];by_cases h:s.1.mul t.1=m
  ·rw[if_pos h,cf_none,Rat.add_zero]
   ·exact Or.inr ((hs.ls.mul (hk t (List.mem_cons_self ..)).ls).lq zj zj)
   ·intro u hu e;obtain⟨v,hv,rfl⟩:=List.mem_map.1 hu;have h1:t.1=v.1:=Mo.mul_left_cancel (h.trans e.symm);have h2:=hB.head v hv;rw[h1] at h2;exact Mo.lt_irrefl _ h2
  ·rw[if_neg h,Rat.zero_add]
   exact row_cf hs m hB.tail fun u hu=>hk u (List.mem_cons_of_mem _ hu)
theorem mulL_cf {k1 k2:Nat} (m:Mo) {B:List Tm} (hB:Canon B) (h2:∀ t∈B,LQ t.2 k2):∀ {A:List Tm},(∀ t∈A,LQ t.2 k1)->cf (mulL A B) m=0\/∃ j,0<j/\j<=A.length/\NQ (cf (mulL A B) m) j (k1+k2)
 | [],_=>Or.inl rfl
 | s :: r,h=>by
  rw[mulL_cons,cf_append]
  have hr:=mulL_cf m hB h2 (A:=r) fun t ht=>h t (List.mem_cons_of_mem _ ht)
  rcases row_cf (h s (List.mem_cons_self ..)) m hB h2 with h3 | h3
  ·rw[h3,Rat.zero_add]
   rcases hr with h4 | ⟨j,h5,h6,h7⟩
   ·exact Or.inl h4
   ·exact Or.inr ⟨j,h5,by rw[List.length_cons];omega,h7⟩
  ·rcases hr with h4 | ⟨j,h5,h6,h7⟩
   ·rw[h4,Rat.add_zero];exact Or.inr ⟨1,by omega,by rw[List.length_cons];omega,NQ.one h3⟩
   ·exact Or.inr ⟨1+j,by omega,by rw[List.length_cons];omega,(NQ.one h3).add h7 (by omega) h5⟩
theorem all_cf {P Q:List Tm} {k1 k2:Nat} (hQ:Canon Q) (h1:∀ t∈P,LQ t.2 k1) (h2:∀ t∈Q,LQ t.2 k2) (i:Nat) (m:Mo) {K:Nat} (hK:P.length*(k1+k2+1)<=K):cf (mulL (P.take i) Q) m=0\/LQ (cf (mulL (P.take i) Q) m) K:=by
 rcases mulL_cf m hQ h2 (A:=P.take i) (fun t ht=>h1 t (List.mem_of_mem_take ht)) with h4 | ⟨n,h5,h6,h7⟩
 ·exact Or.inl h4
 ·rw[List.length_take] at h6;exact Or.inr (h7.lq (zm (Nat.mul_le_mul_right _ (by omega)) hK))
theorem PB.mulC {P Q:List Tm} {n1 k1 e1 n2 k2 e2:Nat} (hQ:Canon Q) (h1:PB P n1 k1 e1) (h2:PB Q n2 k2 e2):PB (mulP P Q) (n1*n2) (n1*(k1+k2+1)) (e1+e2):=by
 have h:=PB.mul h1 h2;refine⟨h.len,fun t ht=>?_,h.ex⟩;have h3:=(nf_mem ht).1;have h4:=all_cf hQ h1.lq h2.lq P.length t.1 zj;rw[List.take_length,<- h3] at h4
 rcases h4 with h4 | h4
 ·exact absurd h4 ((nf_canon _).non t ht)
 ·exact h4.up (Nat.mul_le_mul_right _ h1.len)
theorem nodup_cf {l:List Tm} (h:(l.map Prod.fst).Nodup) {t:Tm} (ht:t∈l):cf l t.1=t.2:=by
 induction l with
 | nil=>cases ht
 | cons s r ih =>
  rw[List.map_cons,List.nodup_cons] at h;rw[cf_cons]
  rcases List.mem_cons.1 ht with rfl | ht
  ·rw[if_pos rfl,cf_none (m:=t.1) fun u hu e=>h.1 (by rw[<- e];exact List.mem_map_of_mem hu),Rat.add_zero]
  ·have e1:¬s.1=t.1:=fun e=>h.1 (by rw[e];exact List.mem_map_of_mem ht)
   rw[if_neg e1,Rat.zero_add];exact ih h.2 ht
theorem like_lq {l L:List Tm} {K:Nat} (h:(l.map Prod.fst).Nodup) (hev:∀ f,ev l f=ev L f) (hc:∀ m,cf L m=0\/LQ (cf L m) K) (hK:K<=900000):∀ t∈l,LQ t.2 900000:=fun t ht=>by
 have h1:t.2=cf L t.1:=(nodup_cf h ht).symm.trans (hev _);rw[h1]
 rcases hc t.1 with h2 | h2
 ·rw[h2];exact lq_zero (by omega)
 ·exact h2.up hK
def Mo.cut (m:Mo) (i:Nat):Mo:=if i=0 then { m with x:=0 } else if i=1 then { m with y:=0 } else if i=2 then { m with z:=0 } else { m with t:=0 }
def powM (i j:Nat):Mo:=if i=0 then ⟨j,0,0,0⟩ else if i=1 then ⟨0,j,0,0⟩ else if i=2 then ⟨0,0,j,0⟩ else ⟨0,0,0,j⟩
theorem letter_lit2 (i:Nat):∃ j,j<4/\(∀ m:Mo,m.at i=m.at j)/\(∀ m:Mo,m.cut i=m.cut j)/\(∀ n,powM i n=powM j n):=by
 by_cases h0:i=0
 ·exact⟨0,by omega,fun m=>by rw[h0],fun m=>by rw[h0],fun n=>by rw[h0]⟩
 by_cases h1:i=1
 ·exact⟨1,by omega,fun m=>by rw[h1],fun m=>by rw[h1],fun n=>by rw[h1]⟩
 by_cases h2:i=2
 ·exact⟨2,by omega,fun m=>by rw[h2],fun m=>by rw[h2],fun n=>by rw[h2]⟩
 ·exact⟨3,by omega,fun m=>by unfold Mo.at;rw[if_neg h0,if_neg h1,if_neg h2];rfl,fun m=>by unfold Mo.cut;rw[if_neg h0,if_neg h1,if_neg h2];rfl,fun n=>by unfold powM;rw[if_neg h0,if_neg h1,if_neg h2];rfl⟩
theorem cut_lt {a b:Mo} {i:Nat} (h:a.at i=b.at i):(a.cut i).lt (b.cut i)↔a.lt b:=by
 obtain⟨l,hl,h1,h2,h3⟩:=letter_lit2 i;rw[h1,h1] at h;rw[h2,h2];unfold Mo.lt
 match l,hl with
 | 0,_=>have h:a.x=b.x:=h;show(0<0\/0=0/\(a.y<b.y\/a.y=b.y/\(a.z<b.z\/a.z=b.z/\a.t<b.t)))↔_;omega
 | 1,_=>have h:a.y=b.y:=h;show(a.x<b.x\/a.x=b.x/\(0<0\/0=0/\(a.z<b.z\/a.z=b.z/\a.t<b.t)))↔_;omega
 | 2,_=>have h:a.z=b.z:=h;show(a.x<b.x\/a.x=b.x/\(a.y<b.y\/a.y=b.y/\(0<0\/0=0/\a.t<b.t)))↔_;omega
 | 3,_=>have h:a.t=b.t:=h;show(a.x<b.x\/a.x=b.x/\(a.y<b.y\/a.y=b.y/\(a.z<b.z\/a.z=b.z/\0<0)))↔_;omega
theorem Canon.filter {P:List Tm} (h:Canon P) (p:Tm->Bool):Canon (P.filter p):=⟨h.falls.filter p,fun t ht=>h.non t (List.mem_filter.1 ht).1⟩
def coefP (P:List Tm) (i j:Nat):List Tm:=(P.filter (fun t=>t.1.at i==j)).map fun t=>(t.1.cut i,t.2)
theorem coefP_canon {P:List Tm} (h:Canon P) (i j:Nat):Canon (coefP P i j):=by
 unfold coefP;refine⟨?_,fun t ht=>?_⟩
 ·rw[List.pairwise_map];refine List.Pairwise.imp_of_mem ?_ (h.filter _).falls;intro a b ha hb hlt;have h1:=(List.mem_filter.1 ha).2;have h2:=(List.mem_filter.1 hb).2;simp only[beq_iff_eq] at h1 h2;exact(cut_lt (h2.trans h1.symm)).2 hlt
 ·obtain⟨s,hs,rfl⟩:=List.mem_map.1 ht;exact h.non s (List.mem_filter.1 hs).1
theorem degP_le {P:List Tm} {i:Nat} {t:Tm} (ht:t∈P):(t.1.at i:Int)<=degP P i:=(fold_max i P (-1)).2.1 t ht
theorem degP_ge (P:List Tm) (i:Nat):-1<=degP P i:=(fold_max i P (-1)).1
theorem degP_has {P:List Tm} (h:P≠[]) (i:Nat):∃ t∈P,degP P i=t.1.at i:=by
 rcases(fold_max i P (-1)).2.2 with h1 | h1
 ·obtain⟨t,ht⟩:∃ t,t∈P:=by
   cases P with
   | nil=>exact absurd rfl h
   | cons t r=>exact⟨t,List.mem_cons_self ..⟩
  have:=(fold_max i P (-1)).2.1 t ht;unfold degP at *;omega
 ·exact h1
def Mo.stands (b a:Mo):Prop:=b.x<=a.x/\b.y<=a.y/\b.z<=a.z/\b.t<=a.t
instance (b a:Mo):Decidable (b.stands a):=by unfold Mo.stands;infer_instance
def Mo.quo (a b:Mo):Mo:=⟨a.x-b.x,a.y-b.y,a.z-b.z,a.t-b.t⟩
theorem Mo.mul_quo {a b:Mo} (h:b.stands a):b.mul (a.quo b)=a:=by
 obtain⟨h1,h2,h3,h4⟩:=h;rw[Mo.eq_iff];exact⟨Nat.add_sub_cancel' h1,Nat.add_sub_cancel' h2,Nat.add_sub_cancel' h3,Nat.add_sub_cancel' h4⟩
theorem Mo.quo_le {a b:Mo} {e:Nat} (h:a.le e):(a.quo b).le e:=by
 obtain⟨h1,h2,h3,h4⟩:=h;exact⟨zm (Nat.sub_le _ _) h1,zm (Nat.sub_le _ _) h2,zm (Nat.sub_le _ _) h3,zm (Nat.sub_le _ _) h4⟩
abbrev Dv:=Tm × List Tm
structure DS where
 p:List Tm
 r:List Tm
 os:List (List Tm)
def byT (t d:Tm):Tm:=(t.1.quo d.1,t.2/d.2)
def Takes (ds:List Dv) (m:Mo) (i:Nat) (d:Dv):Prop:=ds[i]?=some d/\d.1.1.stands m/\∀ (j:Nat) (e:Dv),j<i->ds[j]?=some e->¬e.1.1.stands m
def hitS (s:DS) (t:Tm) (i:Nat) (d:Dv):DS:=⟨subP s.p (mulP d.2 [byT t d.1]),s.r,s.os.modify i fun q=>addP q [byT t d.1]⟩
def restS (s:DS) (t:Tm):DS:=⟨subP s.p [t],addP s.r [t],s.os⟩
inductive Step (K:Mo->Int) (ds:List Dv):DS->DS->Prop
 | hit {s:DS} {t:Tm} {i:Nat} {d:Dv} (hl:Lead K s.p t) (ht:Takes ds t.1 i d):Step K ds s (hitS s t i d)
 | rest {s:DS} {t:Tm} (hl:Lead K s.p t) (ht:∀ d∈ds,¬d.1.1.stands t.1):Step K ds s (restS s t)
theorem Takes.uniq {ds:List Dv} {m:Mo} {i j:Nat} {d e:Dv} (h:Takes ds m i d) (k:Takes ds m j e):i=j/\d=e:=by
 obtain⟨h1,h2,h3⟩:=h;obtain⟨k1,k2,k3⟩:=k
 have hij:i=j:=by
  rcases Nat.lt_trichotomy i j with hlt | h | hlt
  ·exact absurd h2 (k3 i d hlt h1)
  ·exact h
  ·exact absurd k2 (h3 j e hlt k1)
 subst hij;rw[h1] at k1;exact⟨rfl,Option.some.inj k1⟩
theorem ev_single (t:Tm) (f:Mo->Rat):ev [t] f=t.2*f t.1:=by rw[ev_cons,ev_nil,Rat.add_zero]
theorem canon_single {t:Tm} (h:t.2≠0):Canon [t]:=⟨List.pairwise_singleton _ _,fun s hs=>by rw[List.mem_singleton.1 hs];exact h⟩
def evq (ds:List Dv) (os:List (List Tm)) (f:Mo->Rat):Rat:=match ds,os with
 | d :: ds,o :: os=>ev (mulP o d.2) f+evq ds os f
 | _,_=>0
structure Alls (ds:List Dv) (P:List Tm) (s:DS):Prop where
 cp:Canon s.p
 cr:Canon s.r
 co:∀ o∈s.os,Canon o
 len:s.os.length=ds.length
 sum:∀ f,ev s.p f+ev s.r f+evq ds s.os f=ev P f
theorem addP_mo {P Q:List Tm} {t:Tm} (h:t∈addP P Q):(∃ s∈P,s.1=t.1)\/∃ s∈Q,s.1=t.1:=by
 obtain⟨_,s,hs,e⟩:=nf_mem h;exact(List.mem_append.1 hs).imp (fun h=>⟨s,h,e⟩) (fun h=>⟨s,h,e⟩)
theorem scaleP_mo {c:Rat} {P:List Tm} {t:Tm} (h:t∈scaleP c P):∃ s∈P,s.1=t.1:=by
 obtain⟨_,s,hs,e⟩:=nf_mem h;obtain⟨u,hu,rfl⟩:=List.mem_map.1 hs;exact⟨u,hu,e⟩
theorem subP_mo {P Q:List Tm} {t:Tm} (h:t∈subP P Q):(∃ s∈P,s.1=t.1)\/∃ s∈Q,s.1=t.1:=by
 rcases addP_mo h with h | ⟨s,hs,e⟩
 ·exact Or.inl h
 ·obtain⟨u,hu,e2⟩:=scaleP_mo hs;exact Or.inr ⟨u,hu,e2.trans e⟩
theorem mulP_mo {P:List Tm} {u t:Tm} (h:t∈mulP P [u]):∃ s∈P,s.1.mul u.1=t.1:=by
 obtain⟨_,s,hs,e⟩:=nf_mem h;obtain⟨a,ha,b,hb,rfl⟩:=mem_mulL hs;rw[List.mem_singleton.1 hb] at e;exact⟨a,ha,e⟩
theorem cf_subP (P Q:List Tm) (m:Mo):cf (subP P Q) m=cf P m-cf Q m:=ev_subP P Q _
theorem cf_mulP1 (P:List Tm) (u:Tm) {m n:Mo} (h:n.mul u.1=m):cf (mulP P [u]) m=cf P n*u.2:=by
 unfold cf;rw[ev_mulP]
 have e:∀ a:Mo,ev [u] (fun b=>at_ m (a.mul b))=u.2*at_ n a:=fun a=>by
  rw[ev_single]
  congr 1
  unfold at_;by_cases h1:a=n
  ·rw[if_pos h1,if_pos (by rw[h1,h])]
  ·rw[if_neg h1,if_neg];intro h2;rw[<- h,Mo.mul_comm a,Mo.mul_comm n] at h2;exact h1 (Mo.mul_left_cancel h2)
 simp only[e];rw[ev_smul,Rat.mul_comm]
structure Dvs (K:Mo->Int) (ds:List Dv) (E:Nat):Prop where
 key:Key 65535 K
 can:∀ d∈ds,Canon d.2
 lead:∀ d∈ds,Lead K d.2 d.1
 ex:∀ d∈ds,∀ t∈d.2,t.1.le E
theorem Dvs.ne {K:Mo->Int} {ds:List Dv} {E:Nat} (h:Dvs K ds E) {d:Dv} (hd:d∈ds):d.1.2≠0:=(h.can d hd).non _ (h.lead d hd).1
theorem lead_uniq {K:Mo->Int} (hK:Key 65535 K) {P:List Tm} (hP:Canon P) (hs:∀ t∈P,t.1.le 65535) {t u:Tm} (h:Lead K P t) (k:Lead K P u):t=u:=by
 have e:=hK.inj _ _ (hs t h.1) (hs u k.1) (Int.le_antisymm (k.2 t h.1) (h.2 u k.1));have h1:=hP.cf_mem h.1;have h2:=hP.cf_mem k.1;rw[e,h2] at h1;exact Prod.ext e h1.symm
theorem Step.falls {K:Mo->Int} {ds:List Dv} {E:Nat} (hd:Dvs K ds E) {s s':DS} (hp:Canon s.p) {e:Nat} (he:∀ t∈s.p,t.1.le e) (hE:E+e<=65535) (hs:Step K ds s s'):∃ t,Lead K s.p t/\∀ u∈s'.p,K u.1<K t.1:=by
 cases hs with
 | @hit t i d hl ht =>
  refine⟨t,hl,fun u hu=>?_⟩;have hdm:=List.mem_of_getElem? ht.1;have hld:=hd.lead d hdm;have hq:(t.1.quo d.1.1).le e:=Mo.quo_le (he t hl.1)
  have key:∀ a∈d.2,K (a.1.mul (t.1.quo d.1.1))=K a.1+K (t.1.quo d.1.1):=fun a ha =>
   hd.key.add _ _ ((hd.ex d hdm a ha).up (by omega)) (hq.up (by omega)) (((hd.ex d hdm a ha).mul hq).up hE)
  have hle:K u.1<=K t.1/\u.1.le 65535:=by
   rcases subP_mo hu with ⟨v,hv,e1⟩ | ⟨v,hv,e1⟩
   ·rw[<- e1];exact⟨hl.2 v hv,(he v hv).up (by omega)⟩
   ·obtain⟨a,ha,e2⟩:=mulP_mo hv;rw[<- e1,<- e2];refine⟨?_,((hd.ex d hdm a ha).mul hq).up hE⟩;show K (a.1.mul (t.1.quo d.1.1))<=_;rw[key a ha,show K t.1=K d.1.1+K (t.1.quo d.1.1) by rw[<- key d.1 hld.1,Mo.mul_quo ht.2.1]];have:=hld.2 a ha;omega
  refine Int.lt_iff_le_and_ne.2 ⟨hle.1,fun e1=>?_⟩;have e2:=hd.key.inj _ _ hle.2 ((he t hl.1).up (by omega)) e1;have h1:=(subP_canon _ _).cf_mem hu;rw[e2,cf_subP,hp.cf_mem hl.1,cf_mulP1 d.2 (byT t d.1) (n:=d.1.1) (Mo.mul_quo ht.2.1),(hd.can d hdm).cf_mem hld.1] at h1;refine(subP_canon _ _).non u hu ?_;rw[<- h1];show t.2-d.1.2*(t.2/d.1.2)=0;rw[Rat.mul_comm,Rat.div_mul_cancel (hd.ne hdm)]
  grind
 | @rest t hl ht =>
  refine⟨t,hl,fun u hu=>?_⟩
  have hm:∃ v∈s.p,v.1=u.1:=by
   rcases subP_mo hu with h | ⟨v,hv,e1⟩
   ·exact h
   ·rw[List.mem_singleton.1 hv] at e1;exact⟨t,hl.1,e1⟩
  obtain⟨v,hv,e1⟩:=hm;refine Int.lt_iff_le_and_ne.2 ⟨by rw[<- e1];exact hl.2 v hv,fun e2=>?_⟩;have e3:=hd.key.inj _ _ (by rw[<- e1];exact(he v hv).up (by omega)) ((he t hl.1).up (by omega)) e2;have h1:=(subP_canon _ _).cf_mem hu;rw[e3,cf_subP,hp.cf_mem hl.1,(canon_single (hp.non t hl.1)).cf_mem (List.mem_singleton.2 rfl)] at h1;refine(subP_canon _ _).non u hu ?_;rw[<- h1];show t.2-t.2=0;grind
def CD (L:List Tm) (k:Nat):Prop:=∃ D:Int,D≠0/\lenB D.natAbs<=k/\∀ t∈L,∃ z:Int,t.2*(D:Rat)=(z:Rat)/\lenB z.natAbs<=k
theorem CD.up {L:List Tm} {k m:Nat} (h:CD L k) (hk:k<=m):CD L m:=by
 obtain⟨D,h1,h2,h3⟩:=h;exact⟨D,h1,zm h2 hk,fun t ht=>let ⟨z,e,h⟩:=h3 t ht;⟨z,e,zm h hk⟩⟩
theorem lq_make {p q:Int} {k:Nat} (hq:q≠0) (h1:lenB p.natAbs<=k) (h2:lenB q.natAbs<=k):LQ ((p:Rat)/(q:Rat)) k:=by
 rw[<- Rat.divInt_eq_div];have h:=divInt_len p q hq;exact⟨zm h.1 h1,zm h.2 h2⟩
theorem cast_ne {b:Int} (hb:b≠0):(b:Rat)≠0:=fun e=>hb (Rat.intCast_inj.1 (e.trans Rat.intCast_zero.symm))
theorem frac_eq {a b:Int} {q:Rat} (hb:b≠0) (h:q*(b:Rat)=(a:Rat)):q=(a:Rat)/(b:Rat):=by rw[<- h,Rat.mul_div_cancel (cast_ne hb)]
theorem num_den (q:Rat):q*(q.den:Rat)=(q.num:Rat):=by
 have h:(q.num:Rat)/(q.den:Rat)=q:=by rw[<- Rat.mkRat_eq_div];exact Rat.mkRat_self q
 have h0:(q.den:Rat)≠0:=by
  have:=cast_ne (b:=(q.den:Int)) (by have:=q.den_pos;omega);rwa [Rat.intCast_natCast] at this
 conv=>lhs;arg 1;rw[<- h]
 exact Rat.div_mul_cancel h0
theorem CD.lq {L:List Tm} {k:Nat} (h:CD L k):∀ t∈L,LQ t.2 k:=fun t ht=>by
 obtain⟨D,h1,h2,h3⟩:=h;obtain⟨z,e,hz⟩:=h3 t ht;rw[frac_eq h1 e];exact lq_make h1 hz h2
theorem lenB_zmul {a b:Int} {i j:Nat} (ha:lenB a.natAbs<=i) (hb:lenB b.natAbs<=j):lenB (a*b).natAbs<=i+j:=by
 rw[Int.natAbs_mul];exact zm (lenB_mul_le _ _) (Nat.add_le_add ha hb)
theorem CD.of_aux {a b:Nat}:∀ {P:List Tm},(∀ t∈P,LS t.2 a b)->∃ D:Int,D≠0/\lenB D.natAbs<=1+P.length*b/\∀ t∈P,∃ z:Int,t.2*(D:Rat)=(z:Rat)/\lenB z.natAbs<=a+1+P.length*b
 | [],_=>⟨1,by decide,zm (by decide +kernel:lenB (Int.natAbs 1)<=1) (by omega),fun t ht=>by cases ht⟩
 | t :: r,h=>by
  obtain⟨D,h1,h2,h3⟩:=CD.of_aux (P:=r) fun u hu=>h u (List.mem_cons_of_mem _ hu)
  have ht:=h t (List.mem_cons_self ..)
  have hd:((t.2.den:Nat):Int)≠0:=by have:=t.2.den_pos;omega
  have hl:(t :: r).length*b=r.length*b+b:=by rw[List.length_cons,Nat.add_mul,Nat.one_mul]
  refine⟨D*(t.2.den:Int),Int.mul_ne_zero h1 hd,by rw[hl];exact zm (lenB_zmul h2 ht.l) (by omega),fun u hu=>?_⟩
  rcases List.mem_cons.1 hu with rfl | hu
  ·refine⟨u.2.num*D,?_,?_⟩
   ·rw[Rat.intCast_mul,Rat.intCast_mul,Rat.intCast_natCast];have:=num_den u.2;grind
   ·rw[hl];exact zm (lenB_zmul ht.t h2) (by omega)
  ·obtain⟨z,e,hz⟩:=h3 u hu;refine⟨z*(t.2.den:Int),?_,?_⟩
   ·rw[Rat.intCast_mul,Rat.intCast_mul,<- e];grind
   ·rw[hl];exact zm (lenB_zmul hz ht.l) (by omega)
theorem CD.of {P:List Tm} {a b n:Nat} (hn:P.length<=n) (h:∀ t∈P,LS t.2 a b):CD P (a+1+n*b):=by
 obtain⟨D,h1,h2,h3⟩:=CD.of_aux h;have:=Nat.mul_le_mul_right b hn;exact⟨D,h1,by omega,fun t ht=>let ⟨z,e,hz⟩:=h3 t ht;⟨z,e,by omega⟩⟩
open Go.RowKit Go.Sort
structure TV where
 c:FV
 m:Mo
def TV.cells (t:TV):List Value:=[.bool t.c.t.s,.slice t.c.t.a t.c.t.n t.c.t.c,.bool t.c.l.s,.slice t.c.l.a t.c.l.n t.c.l.c,.int .u16 t.m.x,.int .u16 t.m.y,.int .u16 t.m.z,.int .u16 t.m.t]
abbrev TV.v (t:TV):Value:=.agg #[.bool t.c.t.s,.slice t.c.t.a t.c.t.n t.c.t.c,.bool t.c.l.s,.slice t.c.l.a t.c.l.n t.c.l.c,.int .u16 t.m.x,.int .u16 t.m.y,.int .u16 t.m.z,.int .u16 t.m.t]
abbrev Mo.v (m:Mo):Value:=.agg #[.int .u16 m.x,.int .u16 m.y,.int .u16 m.z,.int .u16 m.t]
theorem TV.len (t:TV):t.cells.length=8:=rfl
def Mo.Small (m:Mo):Prop:=m.x<=65535/\m.y<=65535/\m.z<=65535/\m.t<=65535
abbrev TE:=TV × Rat
abbrev tm (e:TE):Tm:=(e.1.m,e.2)
theorem flat_get (ts:List TV) (i j:Nat) (t:TV) (hi:ts[i]?=some t) (hj:j<8):(ts.flatMap TV.cells)[i*8+j]?=t.cells[j]?:=by
 induction ts generalizing i with
 | nil=>simp at hi
 | cons s r ih =>
  rw[List.flatMap_cons]
  cases i with
  | zero =>
   obtain rfl:s=t:=by simpa using hi
   rw[Nat.zero_mul,Nat.zero_add,List.getElem?_append_left (by rw[TV.len];exact hj)]
  | succ i =>
   rw[List.getElem?_append_right (by rw[TV.len];omega),TV.len,show(i+1)*8+j-8=i*8+j by omega];exact ih i (by simpa using hi)
theorem flat_len (ts:List TV):(ts.flatMap TV.cells).length=ts.length*8:=by
 induction ts with
 | nil=>rfl
 | cons s r ih=>rw[List.flatMap_cons,List.length_append,ih,TV.len,List.length_cons];omega
structure RT (w:World) (a:Option Addr) (ts:List TV):Prop where
 ex:ts≠[]->∃ b off,a=some ⟨b,off,none⟩/\∀ i t,ts[i]?=some t->∀ j v,t.cells[j]?=some v->w.cell? ⟨b,off+i*8+j,none⟩=some v
theorem RT.nil (w:World) (a:Option Addr):RT w a []:=⟨fun h=>absurd rfl h⟩
theorem RT.below {w w':World} {a:Option Addr} {ts:List TV} (h:RT w a ts) (hb:Below w.heap.size w w'):RT w' a ts:=by
 refine⟨fun hn=>?_⟩;obtain⟨b,off,ha,hc⟩:=h.ex hn;refine⟨b,off,ha,fun i t hi j v hj=>?_⟩;have h1:=hc i t hi j v hj;exact(hb.cell (p:=⟨b,off+i*8+j,none⟩) (block_lt_of_cell h1)).trans h1
theorem RT.eight {w:World} {b off:Nat} {ts:List TV} {i:Nat} {t:TV} (hc:∀ i t,ts[i]?=some t->∀ j v,t.cells[j]?=some v->w.cell? ⟨b,off+i*8+j,none⟩=some v) (hi:ts[i]?=some t) :
  w.cell? ⟨b,off+i*8,none⟩=some (.bool t.c.t.s)/\w.cell? ⟨b,off+i*8+1,none⟩=some (.slice t.c.t.a t.c.t.n t.c.t.c)/\w.cell? ⟨b,off+i*8+2,none⟩=some (.bool t.c.l.s)/\w.cell? ⟨b,off+i*8+3,none⟩=some (.slice t.c.l.a t.c.l.n t.c.l.c) /\
  w.cell? ⟨b,off+i*8+4,none⟩=some (.int .u16 t.m.x)/\w.cell? ⟨b,off+i*8+5,none⟩=some (.int .u16 t.m.y)/\w.cell? ⟨b,off+i*8+6,none⟩=some (.int .u16 t.m.z)/\w.cell? ⟨b,off+i*8+7,none⟩=some (.int .u16 t.m.t) :=
 ⟨hc i t hi 0 _ rfl,hc i t hi 1 _ rfl,hc i t hi 2 _ rfl,hc i t hi 3 _ rfl,hc i t hi 4 _ rfl,hc i t hi 5 _ rfl,hc i t hi 6 _ rfl,hc i t hi 7 _ rfl⟩
theorem RT.off {w:World} {a:Option Addr} {ts:List TV} (h:RT w a ts) {i:Nat} (hi:i<ts.length):∃ b off,a=some ⟨b,off,none⟩/\b<w.heap.size/\∀ i t,ts[i]?=some t->∀ j v,t.cells[j]?=some v->w.cell? ⟨b,off+i*8+j,none⟩=some v:=by
 obtain⟨b,off,ha,hc⟩:=h.ex (fun e=>by rw[e] at hi;simp at hi);exact⟨b,off,ha,block_lt_of_cell (hc i _ (List.getElem?_eq_getElem hi) 0 _ rfl),hc⟩
abbrev OT (w:World) (lo:Nat) (v:Value) (ts:List TV):Prop:=w.ownsRow lo 37 8 v ts.length (ts.flatMap TV.cells)
theorem OT.slice {w:World} {lo:Nat} {v:Value} {ts:List TV} (h:OT w lo v ts):∃ a c,v=.slice a ts.length c/\ts.length<=c/\RT w a ts:=by
 rcases h.2 with ⟨hv,h0⟩ | ⟨g,cap,cur,hv,_,hg,hnc,_,hcs,htake⟩
 ·have hz:ts=[]:=List.length_eq_zero_iff.1 h0;subst hz;exact⟨none,0,hv,zj,RT.nil _ _⟩
 ·refine⟨some ⟨g,0,none⟩,cap,hv,hnc,⟨fun hn=>⟨g,0,rfl,fun i t hi j v hj=>?_⟩⟩⟩
  have hj8:j<8:=by have:=(List.getElem?_eq_some_iff.1 hj).1;rw[TV.len] at this;exact this
  have hil:=(List.getElem?_eq_some_iff.1 hi).1;rw[cell_of_row _ _ _ _ _ _ hg,Nat.zero_add];have h1:=flat_get ts i j t hi hj8;rw[<- htake,List.getElem?_take,if_pos (by omega),Array.getElem?_toList] at h1;rw[h1,hj]
theorem OT.below {w w':World} {lo:Nat} {v:Value} {ts:List TV} (h:OT w lo v ts) (hb:Below w.heap.size w w'):OT w' lo v ts:=by
 refine⟨h.1,h.2.imp id ?_⟩;rintro⟨g,cap,cur,hv,hlo,hg,h3⟩;exact⟨g,cap,cur,hv,hlo,(hb.block g (lt_of_block hg)).trans hg,h3⟩
theorem OT.mono {w:World} {lo lo':Nat} {v:Value} {ts:List TV} (h:OT w lo v ts) (hl:lo'<=lo):OT w lo' v ts:=by
 refine⟨h.1,h.2.imp id ?_⟩;rintro⟨g,cap,cur,hv,hlo,h3⟩;exact⟨g,cap,cur,hv,by omega,h3⟩
def FV.apart (x y:FV):Prop:=∀ b,FV.blk x b->¬FV.blk y b
theorem FV.apart.symm {x y:FV} (h:FV.apart x y):FV.apart y x:=fun b hb hx=>h b hx hb
structure PV where
 a:Option Addr
 n:Nat
 c:Nat
abbrev PV.v (x:PV):Value:=.slice x.a x.n x.c
theorem PV.inj {x y:PV} (h:x.v=y.v):x=y:=by
 obtain⟨a,n,c⟩:=x;obtain⟨a',n',c'⟩:=y;simp only[PV.v,Value.slice.injEq] at h;obtain⟨rfl,rfl,rfl⟩:=h;rfl
structure KP (w:World) (x:PV) (P:List Tm):Prop where
 ex:∃ L:List TE,RT w x.a (L.map Prod.fst)/\L.length=x.n/\(∀ e∈L,KF w e.1.c e.2)/\L.map tm=P
 le:x.n<=x.c
 canon:Canon P
 small:∀ t∈P,t.1.Small
theorem KP.below {w w':World} {x:PV} {P:List Tm} (h:KP w x P) (hb:Below w.heap.size w w'):KP w' x P:=by
 obtain⟨L,h1,h2,h3,h4⟩:=h.ex;exact⟨⟨L,h1.below hb,h2,fun e he=>(h3 e he).below hb,h4⟩,h.le,h.canon,h.small⟩
theorem KP.len {w:World} {x:PV} {P:List Tm} (h:KP w x P):x.n=P.length:=by
 obtain⟨L,_,h2,_,h4⟩:=h.ex;rw[<- h2,<- h4,List.length_map]
theorem KP.nil (w:World) (a:Option Addr) (c:Nat):KP w ⟨a,0,c⟩ []:=⟨⟨[],RT.nil _ _,rfl,fun _ h=>(by cases h),rfl⟩,Nat.zero_le _,Canon.nil,fun _ h=>(by cases h)⟩
structure DP (w:World) (lo:Nat) (x:PV) (P:List Tm):Prop where
 ex:∃ L:List TE,OT w lo x.v (L.map Prod.fst)/\(∀ e∈L,DF w lo e.1.c e.2)/\L.Pairwise (fun e f=>FV.apart e.1.c f.1.c)/\L.map tm=P
 canon:Canon P
 small:∀ t∈P,t.1.Small
theorem DP.k {w:World} {lo:Nat} {x:PV} {P:List Tm} (h:DP w lo x P):KP w x P:=by
 obtain⟨L,h1,h2,_,h4⟩:=h.ex;obtain⟨a,c,e,hc,hr⟩:=OT.slice h1;obtain⟨xa,xn,xc⟩:=x;simp only[PV.v,Value.slice.injEq] at e;obtain⟨rfl,rfl,rfl⟩:=e;exact⟨⟨L,hr,(List.length_map ..).symm,fun e he=>(h2 e he).k,h4⟩,hc,h.canon,h.small⟩
theorem DP.below {w w':World} {lo:Nat} {x:PV} {P:List Tm} (h:DP w lo x P) (hb:Below w.heap.size w w'):DP w' lo x P:=by
 obtain⟨L,h1,h2,h3,h4⟩:=h.ex;exact⟨⟨L,OT.below h1 hb,fun e he=>(h2 e he).below hb,h3,h4⟩,h.canon,h.small⟩
abbrev TO:=TV × Option Rat
def TO.ok (w:World) (e:TO):Prop:=match e.2 with
 | some q=>KF w e.1.c q
 | none=>BF w e.1.c
def RawP (w:World) (x:PV) (L:List TO):Prop:=RT w x.a (L.map Prod.fst)/\L.length=x.n/\x.n<=x.c/\(∀ e∈L,TO.ok w e)/\(∀ e∈L,e.1.m.Small)/\(∀ e∈L,LF e.1.c 900000)
def vals:List TO->Option (List Tm)
 | []=>some []
 | e :: r=>match e.2,vals r with
  | some q,some l=>some ((e.1.m,q) :: l)
  | _,_=>none
def okP (L:List TO):Prop:=∃ P,vals L=some P/\Canon P
theorem vals_spec:∀ {L:List TO} {P:List Tm},vals L=some P->∃ K:List TE,L=K.map (fun e=>(e.1,some e.2))/\K.map tm=P
 | [],P,h=>by
  obtain rfl:[]=P:=Option.some.inj h
  exact⟨[],rfl,rfl⟩
 | (t,o) :: r,P,h=>by
  unfold vals at h
  cases o with
  | none=>simp at h
  | some q =>
   cases hr:vals r with
   | none=>simp[hr] at h
   | some l =>
    simp only[hr,Option.some.injEq] at h;obtain⟨K,h1,h2⟩:=vals_spec hr;exact⟨(t,q) :: K,by rw[h1];rfl,by rw[<- h,<- h2];rfl⟩
theorem RawP.below {w w':World} {x:PV} {L:List TO} (h:RawP w x L) (hb:Below w.heap.size w w'):RawP w' x L:=by
 obtain⟨h1,h2,h3,h4,h5,h7⟩:=h;refine⟨h1.below hb,h2,h3,fun e he=>?_,h5,h7⟩;have h6:=h4 e he;unfold TO.ok at h6 ⊢;split at h6
 ·exact h6.below hb
 ·exact h6.below hb
theorem RawP.kp {w:World} {x:PV} {L:List TO} (h:RawP w x L) {P:List Tm} (hv:vals L=some P) (hc:Canon P):KP w x P:=by
 obtain⟨K,hK,hP⟩:=vals_spec hv;obtain⟨h1,h2,h3,h4,h5,h7⟩:=h;refine⟨⟨K,?_,by rw[<- h2,hK,List.length_map],fun e he=>?_,hP⟩,h3,hc,fun t ht=>?_⟩
 ·rw[hK,List.map_map] at h1;exact h1
 ·exact h4 (e.1,some e.2) (by rw[hK];exact List.mem_map_of_mem he)
 ·rw[<- hP] at ht;obtain⟨e,he,rfl⟩:=List.mem_map.1 ht;exact h5 (e.1,some e.2) (by rw[hK];exact List.mem_map_of_mem he)
def BP (w:World) (x:PV):Prop:=∃ L,RawP w x L/\¬okP L
theorem BP.below {w w':World} {x:PV} (h:BP w x) (hb:Below w.heap.size w w'):BP w' x:=by
 obtain⟨L,h1,h2⟩:=h;exact⟨L,h1.below hb,h2⟩
def AP (w:World) (x:PV) (P:List Tm):Prop:=KP w x P\/(BP w x/\P=[])
theorem AP.below {w w':World} {x:PV} {P:List Tm} (h:AP w x P) (hb:Below w.heap.size w w'):AP w' x P:=h.imp (fun h=>h.below hb) (fun h=>⟨h.1.below hb,h.2⟩)
theorem KP.any {w:World} {x:PV} {P:List Tm} (h:KP w x P):AP w x P:=Or.inl h
end Pol
namespace Pol
open Limb
def wt (c m:Mo):Nat:=c.x*m.x+c.y*m.y+c.z*m.z+c.t*m.t
structure Mo.pos (c:Mo):Prop where
 x:1<=c.x
 y:1<=c.y
 z:1<=c.z
 t:1<=c.t
def boxM (c:Mo) (W:Nat):List Mo:=(List.range (W/c.x+1)).flatMap fun x=>(List.range (W/c.y+1)).flatMap fun y=>(List.range (W/c.z+1)).flatMap fun z=>((List.range (W/c.t+1)).map fun t=>(⟨x,y,z,t⟩:Mo)).filter fun m=>decide (wt c m<=W)
theorem boxM_mem {c:Mo} (h:c.pos) {W:Nat} {m:Mo} (hw:wt c m<=W):m∈boxM c W:=by
 obtain⟨h1,h2,h3,h4⟩:=h;have hw':c.x*m.x+c.y*m.y+c.z*m.z+c.t*m.t<=W:=hw
 refine List.mem_flatMap.2 ⟨m.x,List.mem_range.2 (Nat.lt_succ_of_le ((Nat.le_div_iff_mul_le h1).2 (by rw[Nat.mul_comm];omega))),List.mem_flatMap.2 ⟨m.y,List.mem_range.2 (Nat.lt_succ_of_le ((Nat.le_div_iff_mul_le h2).2 (by rw[Nat.mul_comm];omega))),
  List.mem_flatMap.2 ⟨m.z,List.mem_range.2 (Nat.lt_succ_of_le ((Nat.le_div_iff_mul_le h3).2 (by rw[Nat.mul_comm];omega))),List.mem_filter.2 ⟨List.mem_map.2 ⟨m.t,List.mem_range.2 (Nat.lt_succ_of_le ((Nat.le_div_iff_mul_le h4).2 (by rw[Nat.mul_comm];omega))),rfl⟩,decide_eq_true hw⟩⟩⟩⟩
def leftM (K:Mo->Int) (A:List Mo) (P:List Tm):Nat:=A.countP fun m=>P.any fun t=>decide (K m<=K t.1)
structure GI (K:Mo->Int) (ds:List Dv) (P:List Tm) (c:Mo) (W k0 G kd:Nat) (top:Int) (s:DS):Prop where
 al:Alls ds P s
 w:∀ t∈s.p,wt c t.1<=W
 cd:CD s.p (k0+G*((boxM c W).length-leftM K (boxM c W) s.p))
 r:∀ t∈s.r,LQ t.2 (k0+G*((boxM c W).length-leftM K (boxM c W) s.p))/\wt c t.1<=W/\(∀ d∈ds,¬d.1.1.stands t.1)/\(∀ u∈s.p,K u.1<K t.1)
 o:∀ (i:Nat) (d:Dv) (q:List Tm),ds[i]?=some d->s.os[i]?=some q->∀ v∈q,LQ v.2 (k0+G*((boxM c W).length-leftM K (boxM c W) s.p)+kd)/\wt c v.1<=W/\K (v.1.mul d.1.1)<=top/\(∀ u∈s.p,K u.1<K (v.1.mul d.1.1))/\v.1.le W
 top:∀ t∈s.p,K t.1<=top
theorem GI.box {K:Mo->Int} {ds:List Dv} {P:List Tm} {c:Mo} {W k0 G kd:Nat} {top:Int} {s:DS} (h:GI K ds P c W k0 G kd top s) (hc:c.pos) {t:Tm} (ht:t∈s.p):t.1∈boxM c W:=boxM_mem hc (h.w t ht)
open Go.RowKit Go.Sort
def putT (m:Mo) (q:Rat):List Tm->List Tm
 | []=>[(m,q)]
 | s :: r=>if s.1=m then (m,s.2+q) :: r else s :: putT m q r
theorem ev_putT (m:Mo) (q:Rat) (f:Mo->Rat):∀ l:List Tm,ev (putT m q l) f=q*f m+ev l f
 | []=>by unfold putT;rw[ev_cons]
 | s :: r=>by
  unfold putT;split
  ·rename_i h;rw[ev_cons,ev_cons,h];grind
  ·rw[ev_cons,ev_cons,ev_putT m q f r];grind
def ent (p:TE × Nat):MapEntry:={ key:=Mo.v p.1.1.m,val:=p.1.1.c.v,born:=p.2 }
def ents (L:List TE):List MapEntry:=L.zipIdx.map ent
theorem ents_get (L:List TE) (i:Nat):(ents L)[i]?=(L[i]?).map (fun e=>ent (e,i)):=by
 unfold ents;rw[List.getElem?_map,List.getElem?_zipIdx,Option.map_map,Nat.zero_add];rfl
theorem ents_push (L:List TE) (e:TE):ents (L++[e])=ents L++[ent (e,L.length)]:=by
 unfold ents;rw[List.zipIdx_append,List.map_append,Nat.zero_add];rfl
theorem ents_len (L:List TE):(ents L).length=L.length:=by unfold ents;rw[List.length_map,List.length_zipIdx]
def place (m:Mo):List TE->Nat->Option (Nat × TE)
 | [],_=>none
 | e :: r,i=>if m=e.1.m then some (i,e) else place m r (i+1)
theorem place_some {m:Mo}:∀ {L:List TE} {i j:Nat} {e:TE},place m L i=some (j,e)->i<=j/\L[j-i]?=some e/\e.1.m=m
 | [],i,j,e,h=>by cases h
 | a :: r,i,j,e,h=>by
  unfold place at h;split at h
  ·rename_i hm;simp only[Option.some.injEq,Prod.mk.injEq] at h;obtain⟨rfl,rfl⟩:=h;exact⟨zj,by simp,hm.symm⟩
  ·obtain⟨h1,h2,h3⟩:=place_some h;refine⟨by omega,?_,h3⟩;rw[show j-i=(j-(i+1))+1 by omega,List.getElem?_cons_succ];exact h2
theorem place_none {m:Mo}:∀ {L:List TE} {i:Nat},place m L i=none->∀ e∈L,e.1.m≠m
 | [],_,_,e,he=>by cases he
 | a :: r,i,h,e,he=>by
  unfold place at h;split at h
  ·cases h
  ·rename_i hm
   rcases List.mem_cons.1 he with rfl | he
   ·exact fun e=>hm e.symm
   ·exact place_none h e he
theorem mo_beq (a b:Mo):(((a.x:Int)==(b.x:Int))&&(((a.y:Int)==(b.y:Int))&&(((a.z:Int)==(b.z:Int))&&((a.t:Int)==(b.t:Int)))))=decide (a=b):=by
 rw[Bool.eq_iff_iff];simp only[Bool.and_eq_true,beq_iff_eq,decide_eq_true_eq,Mo.eq_iff];omega
theorem run_eqM (a b:Mo) (w:World):(Op.equal 35 (Mo.v a) (Mo.v b)).run Tryz.prog w=.ok (decide (a=b)) w:=by
 rw[<- mo_beq];exact Mono.run_eq4 a.x a.y a.z a.t b.x b.y b.z b.t w
theorem run_asking (m:Mo) (w:World):∀ (L:List TE) (i:Nat),(Instr.findAsking 35 (Mo.v m) ((L.zipIdx i).map ent) i).run Tryz.prog w=.ok ((place m L i).map fun p=>(p.1,p.2.1.c.v)) w
 | [],i=>by rfl
 | e :: r,i=>by
  rw[List.zipIdx_cons,List.map_cons,Instr.findAsking,Sem.run_bind];rw[show(ent (e,i)).key=Mo.v e.1.m from rfl,run_eqM,Result.andThen_ok];unfold place;by_cases h:m=e.1.m
  ·rw[if_pos h,decide_eq_true h];rfl
  ·rw[if_neg h,zo h];exact run_asking m w r (i+1)
theorem run_find (m:Mo) (w:World) (L:List TE):(Instr.findKey 35 (Mo.v m) (ents L)).run Tryz.prog w=.ok ((place m L 0).map fun p=>(p.1,p.2.1.c.v)) w:=by
 unfold Instr.findKey;rw[Sem.run_bind,run_underlying Tryz.underlying35,Result.andThen_ok]
 cases L with
 | nil=>rfl
 | cons e r=>exact run_asking m w (e :: r) 0
theorem run_check1 (b:Bool) (n:Nat) (x:Int) (w:World):(Instr.checkKey b (n+1) 33 (.int .u16 x)).run Tryz.prog w=.ok () w:=by
 rw[Instr.checkKey];simp[Sem.run_bind,run_underlying Tryz.underlying33]
theorem run_check2 (b:Bool) (n:Nat) (m:Mo) (w:World):(Instr.checkKey b (n+1+1) 35 (Mo.v m)).run Tryz.prog w=.ok () w:=by
 have hs:∀ w,(sizeOf 33).run Tryz.prog w=.ok 1 w:=fun _=>by kernel_rfl
 rw[Instr.checkKey];simp only[Sem.run_bind,run_underlying Tryz.underlying35,Result.andThen_ok,hs];simp only[Std.Legacy.Range.forIn_eq_forIn_range',Std.Legacy.Range.size,Nat.sub_zero,Nat.add_sub_cancel,Nat.div_one,List.range'_succ,List.range'_zero,List.forIn_cons,List.forIn_nil];simp[Sem.run_bind,Mono.part0,Mono.part1,Mono.part2,Mono.part3,run_check1,hs]
theorem run_check (b:Bool) (m:Mo) (w:World):(Instr.checkKey b 10000 35 (Mo.v m)).run Tryz.prog w=.ok () w:=by
 have h:=run_check2 b 9998 m w;simp only[Nat.reduceAdd] at h;exact h
structure MK (w:World) (lo b:Nat) (L:List TE):Prop where
 blk:w.heap[b]?=some (.map (ents L).toArray L.length)
 ge:lo<=b
 df:∀ e∈L,DF w lo e.1.c e.2
 ap:L.Pairwise (fun e f=>FV.apart e.1.c f.1.c)
 keys:(L.map fun e=>e.1.m).Nodup
 small:∀ e∈L,e.1.m.Small
theorem MK.lt {w:World} {lo b:Nat} {L:List TE} (h:MK w lo b L):b<w.heap.size:=lt_of_block h.blk
theorem MK.below {w w':World} {lo b:Nat} {L:List TE} (h:MK w lo b L) (hb:Below w.heap.size w w'):MK w' lo b L :=
 ⟨(hb.block b h.lt).trans h.blk,h.ge,fun e he=>(h.df e he).below hb,h.ap,h.keys,h.small⟩
theorem run_look {w:World} {lo b:Nat} {L:List TE} (h:MK w lo b L) (m:Mo) :
  (Instr.lookup 84 (.map (some b)) (Mo.v m) true).run Tryz.prog w=.ok (match place m L 0 with
   | some p=>.tuple #[p.2.1.c.v,.bool true]
   | none=>.tuple #[.agg #[.bool false,.slice none 0 0,.bool false,.slice none 0 0],.bool false]) w:=by
 have hz:∀ w,(zeroValue 32).run Tryz.prog w=.ok (.agg #[.bool false,.slice none 0 0,.bool false,.slice none 0 0]) w:=fun _=>by kernel_rfl
 unfold Instr.lookup;simp only[Sem.run_bind,run_underlying Tryz.underlying84,Result.andThen_ok,getObj,Sem.run,h.blk,run_check,run_find];have hf:=run_find m w L
 cases hp:place m L 0 with
 | none=>rw[hp] at hf;simp[Sem.run_bind,hz,hf]
 | some p=>rw[hp] at hf;simp[Sem.run_bind,hf]
def putObj (X:World) (r:Nat) (o:Obj):World:={ X with heap:=X.heap.setIfInBounds r o }
theorem size_putObj (X:World) (r:Nat) (o:Obj):(putObj X r o).heap.size=X.heap.size:=by simp[putObj]
theorem putObj_same {X:World} {r:Nat} {o o':Obj} (h:X.heap[r]?=some o'):(putObj X r o).heap[r]?=some o:=by
 have:=lt_of_block h;simp[putObj,this]
theorem putObj_other (X:World) {r k:Nat} (o:Obj) (h:k≠r):(putObj X r o).heap[k]?=X.heap[k]?:=by
 simp[putObj,Array.getElem?_setIfInBounds];omega
def upd (x:FV) (m:Mo) (q:Rat) (L:List TE):List TE:=match place m L 0 with
 | some p=>L.set p.1 (⟨x,m⟩,q)
 | none=>L++[(⟨x,m⟩,q)]
theorem ents_set (L:List TE) (i:Nat) (e:TE):ents (L.set i e)=(ents L).set i (ent (e,i)):=by
 apply List.ext_getElem?;intro j;rw[ents_get,List.getElem?_set,List.getElem?_set,ents_get,ents_len];by_cases hij:i=j
 ·subst hij;simp only[if_pos rfl];by_cases hl:i<L.length
  ·rw[if_pos hl,if_pos hl];rfl
  ·rw[if_neg hl,if_neg hl];rfl
 ·rw[if_neg hij,if_neg hij]
theorem same_bits2 (n:Nat) (m:Mo):Instr.sameBits (n+1) (Mo.v m) (Mo.v m)=true:=by
 rw[Instr.sameBits];simp[Instr.sameBits]
theorem same_bits (m:Mo):Instr.sameBits 10000 (Mo.v m) (Mo.v m)=true:=by
 have h:=same_bits2 9999 m;simp only[Nat.reduceAdd] at h;exact h
theorem run_upd {w:World} {lo b:Nat} {L:List TE} (h:MK w lo b L) (m:Mo) (x:FV) (q:Rat) :
  (Instr.mapUpdate 84 (.map (some b)) (Mo.v m) x.v).run Tryz.prog w=.ok () (putObj w b (.map (ents (upd x m q L)).toArray (upd x m q L).length)):=by
 unfold Instr.mapUpdate;simp only[Sem.run_bind,run_underlying Tryz.underlying84,Result.andThen_ok,getObj,Sem.run,h.blk,run_check,run_find];unfold upd
 cases hp:place m L 0 with
 | none =>
  simp only[Option.map_none,setObj,Sem.run,h.blk];rw[ents_push,List.length_append]
  simp[putObj,ent]
 | some p =>
  obtain⟨-,h2,h3⟩:=place_some hp;rw[Nat.sub_zero] at h2;have hl:=(List.getElem?_eq_some_iff.1 h2).1
  have e1:(ents L).toArray[p.1]?=some (ent (p.2,p.1)):=by rw[List.getElem?_toArray,ents_get,h2];rfl
  simp only[Option.map_some,e1,Option.getD_some,Instr.keyThatStays];rw[show(ent (p.2,p.1)).key=Mo.v m by rw[<- h3];rfl,same_bits];rw[ents_set,List.length_set];simp[Sem.run_bind,Sem.run,setObj,h.blk,putObj]
  have e2:((ents L).modify p.1 fun e=>{ key:=Mo.v m,val:=x.v,born:=e.born })=(ents L).set p.1 (ent ((⟨x,m⟩,q),p.1)):=by
   apply List.ext_getElem?;intro j;rw[List.getElem?_modify,List.getElem?_set,ents_get,ents_len];by_cases hj:p.1=j
   ·subst hj;rw[h2,if_pos rfl,if_pos hl];simp[ent]
   ·rw[if_neg hj]
    cases L[j]? <;> simp[hj]
  rw[<- e2]
theorem upd_tm (x:FV) (m:Mo) (q:Rat) {L:List TE} {p:Nat × TE} (h:place m L 0=some p):(upd x m (p.2.2+q) L).map tm=putT m q (L.map tm):=by
 unfold upd;rw[h]
 have go:∀ (L:List TE) (i:Nat) (p:Nat × TE),place m L i=some p->(L.set (p.1-i) (⟨x,m⟩,p.2.2+q)).map tm=putT m q (L.map tm):=by
  intro L
  induction L with
  | nil=>intro i p h;cases h
  | cons e r ih =>
   intro i p h;have h0:=h;unfold place at h;split at h
   ·rename_i hm;simp only[Option.some.injEq] at h;subst h;show((e :: r).set (i-i) _).map tm=_;rw[Nat.sub_self,List.set_cons_zero,List.map_cons,List.map_cons];unfold putT;rw[if_pos (show(tm e).1=m from hm.symm)]
   ·rename_i hm;have hp:=place_some h;rw[show p.1-i=(p.1-(i+1))+1 by omega,List.set_cons_succ,List.map_cons,List.map_cons,ih (i+1) p h]
    conv=>rhs;unfold putT
    rw[if_neg (show ¬(tm e).1=m from fun e=>hm e.symm)]
 exact go L 0 p h
theorem upd_none (x:FV) (m:Mo) (q:Rat) {L:List TE} (h:place m L 0=none):upd x m q L=L++[(⟨x,m⟩,q)]/\(upd x m q L).map tm=putT m q (L.map tm):=by
 unfold upd;rw[h];refine⟨rfl,?_⟩;have hn:=place_none h;clear h;rw[List.map_append]
 induction L with
 | nil=>rfl
 | cons e r ih =>
  rw[List.map_cons,zi,ih fun e' he=>hn e' (List.mem_cons_of_mem _ he)]
  conv=>rhs;unfold putT
  rw[if_neg (show ¬(tm e).1=m from hn e (List.mem_cons_self ..))]
theorem own_blkc {T:Nat} {w:World} {lo:Nat} {a:Option Addr} {n c:Nat} {o:Nat->Int} (h:Limb.Own T w lo a n c o) {b:Nat} (hb:∃ p:Addr,a=some p/\p.block=b):∃ cur,w.heap[b]?=some (.cells cur T (0,0)):=by
 obtain⟨p,rfl,rfl⟩:=hb
 rcases h.place with h0 | ⟨g,cur,ha,_,hg,_⟩
 ·cases h0.1
 ·cases ha;exact⟨cur,hg⟩
theorem DF.blkc {w:World} {lo:Nat} {x:FV} {q:Rat} (h:DF w lo x q) {b:Nat} (hb:FV.blk x b):∃ cur,w.heap[b]?=some (.cells cur 128 (0,0)):=by
 rcases hb with hb | hb
 ·exact own_blkc h.t.own hb
 ·exact own_blkc h.l.own hb
theorem DF.putObj {w:World} {lo:Nat} {x:FV} {q:Rat} (h:DF w lo x q) {b:Nat} {es:Array MapEntry} {k:Nat} (hb:w.heap[b]?=some (.map es k)) (o:Obj):DF (putObj w b o) lo x q :=
 h.kept fun g hg=>putObj_other w o fun e=>by
  obtain⟨cur,hc⟩:=DF.blkc h hg;rw[e,hb] at hc
  cases hc
theorem MK.setBxs {w:World} {lo b:Nat} {L:List TE} (h:MK w lo b L) {g:Nat} {t:TypeId} {l:List Value} (hb:Bxs w g t l) (ht:128≠t) (i:Nat) (v:Value):MK (w.setCell ⟨g,i,none⟩ v) lo b L :=
 ⟨(Below.heap_setCell _ _ _ _ (fun e=>by
  have h1:=h.blk;have h2:w.heap[g]?=some (.cells l.toArray t (0,0)):=hb;rw[show b=g from e,h2] at h1
  cases h1)).trans h.blk,h.ge,fun e he=>(h.df e he).setBxs hb ht i v,h.ap,h.keys,h.small⟩
theorem upd_mem {x:FV} {m:Mo} {q:Rat} {L:List TE}:∀ e∈upd x m q L,e∈L\/e=(⟨x,m⟩,q):=by
 intro e he;unfold Pol.upd at he;split at he
 ·exact(List.mem_or_eq_of_mem_set he)
 ·rcases List.mem_append.1 he with he | he
  ·exact Or.inl he
  ·exact Or.inr (List.mem_singleton.1 he)
theorem MK.put {w:World} {lo b:Nat} {L:List TE} (h:MK w lo b L) {x:FV} {m:Mo} {q:Rat} (hx:DF w lo x q) (hap:∀ e∈L,FV.apart e.1.c x) (hs:m.Small) :
  MK (putObj w b (.map (ents (upd x m q L)).toArray (upd x m q L).length)) lo b (upd x m q L):=by
 have hmem:=upd_mem (x:=x) (m:=m) (q:=q) (L:=L);refine⟨putObj_same h.blk,h.ge,fun e he=>?_,?_,?_,fun e he=>?_⟩
 ·rcases hmem e he with he | rfl
  ·exact DF.putObj (h.df e he) h.blk _
  ·exact DF.putObj hx h.blk _
 ·unfold Pol.upd;split
  ·rename_i p hp;rw[List.pairwise_iff_getElem];intro i j hi hj hij;rw[List.length_set] at hi hj;have h1:=List.pairwise_iff_getElem.1 h.ap i j hi hj hij;rw[List.getElem_set,List.getElem_set];split
   ·split
    ·omega
    ·exact FV.apart.symm (hap _ (List.getElem_mem hj))
   ·split
    ·exact hap _ (List.getElem_mem hi)
    ·exact h1
  ·refine List.pairwise_append.2 ⟨h.ap,List.pairwise_singleton _ _,fun e he f hf=>?_⟩;rw[List.mem_singleton.1 hf];exact hap e he
 ·unfold Pol.upd;split
  ·rename_i p hp;obtain⟨-,h2,h3⟩:=place_some hp;rw[Nat.sub_zero] at h2
   have e1:((L.set p.1 (⟨x,m⟩,q)).map fun e=>e.1.m)=L.map fun e=>e.1.m:=by
    apply List.ext_getElem?;intro j;rw[List.getElem?_map,List.getElem?_map,List.getElem?_set];split
    ·rename_i hj;subst hj;have hl:=(List.getElem?_eq_some_iff.1 h2).1;rw[if_pos hl,h2];show some m=some p.2.1.m;rw[h3]
    ·rfl
   rw[e1];exact h.keys
  ·rename_i hp;rw[List.map_append];refine List.nodup_append.2 ⟨h.keys,by simp,fun a ha c hc=>?_⟩;obtain⟨e,he,rfl⟩:=List.mem_map.1 ha
   have:c=m:=by simpa using hc
   rw[this];exact place_none hp e he
 ·rcases hmem e he with he | rfl
  ·exact h.small e he
  ·exact hs
def Only (b:Nat) (w w':World):Prop:=w'.os=w.os/\w'.tape=w.tape/\w'.output=w.output/\w.heap.size<=w'.heap.size/\∀ k,k<w.heap.size->k≠b->w'.heap[k]?=w.heap[k]?
theorem Only.of_below {b:Nat} {w w':World} (h:Below w.heap.size w w'):Only b w w':=⟨h.os,h.tape,h.output,h.size,fun k hk _=>h.block k hk⟩
theorem Only.trans {b:Nat} {u v w:World} (h:Only b u v) (g:Only b v w):Only b u w :=
 ⟨g.1.trans h.1,g.2.1.trans h.2.1,g.2.2.1.trans h.2.2.1,zm h.2.2.2.1 g.2.2.2.1,fun k hk hb=>(g.2.2.2.2 k (Nat.lt_of_lt_of_le hk h.2.2.2.1) hb).trans (h.2.2.2.2 k hk hb)⟩
theorem Only.put {b:Nat} {u w:World} (h:Only b u w) (o:Obj):Only b u (putObj w b o) :=
 ⟨h.1,h.2.1,h.2.2.1,by rw[size_putObj];exact h.2.2.2.1,fun k hk hb=>(putObj_other w o hb).trans (h.2.2.2.2 k hk hb)⟩
theorem Only.below {b B:Nat} {u w:World} (h:Only b u w) (hb:B<=b) (hB:B<=u.heap.size):Below B u w:=⟨h.1,h.2.1,h.2.2.1,h.2.2.2.1,fun k hk=>h.2.2.2.2 k (by omega) (by omega)⟩
theorem add_likesS (b lo:Nat) (L:List TE) (x:FV) (q:Rat) (m:Mo) (w:World) (hM:MK w lo b L) (hx:DF w lo x q) (hap:∀ e∈L,FV.apart e.1.c x) (hs:m.Small) (hq:LQ q 900000) (hL:∀ e∈L,LQ e.2 900000) (hlo:lo<=w.heap.size) :
  Calls Tryz.prog 39 #[.map (some b),x.v,Mo.v m] w fun e w'=>e=.returned (.tuple #[])/\(∃ L',MK w' lo b L'/\L'.map tm=putT m q (L.map tm)/\∀ e∈L',e∈L\/e.1.c=x\/DF w' w.heap.size e.1.c e.2)/\Only b w w':=by
 have HM:=qh hM;have HX:=qh hx;have HAP:=qh hap;have HS:=qh hs;have HQ:=qh hq;have HL:=qh hL;have HLO:=qh hlo;obtain⟨W,hW⟩:∃ W,W=(w.alloc (.cells #[.bool x.t.s,.slice x.t.a x.t.n x.t.c,.bool x.l.s,.slice x.l.a x.l.n x.l.c] 32)).alloc (.cells #[.int .u16 m.x,.int .u16 m.y,.int .u16 m.z,.int .u16 m.t] 35):=⟨_,rfl⟩
 have hbW:Below w.heap.size w W:=by rw[hW];exact(zk.alloc zj _).alloc (by go_size) _
 have KG:=qh hbW;have B4:=qh (show Bxs W w.heap.size 32 [.bool x.t.s,.slice x.t.a x.t.n x.t.c,.bool x.l.s,.slice x.l.a x.l.n x.l.c] by rw[hW];exact(Bxs.new w 32 [.bool x.t.s,.slice x.t.a x.t.n x.t.c,.bool x.l.s,.slice x.l.a x.l.n x.l.c]).alloc _)
 have B5:=qh (show Bxs W (w.heap.size+1) 35 [.int .u16 m.x,.int .u16 m.y,.int .u16 m.z,.int .u16 m.t] by
  have h:=Bxs.new (w.alloc (.cells #[.bool x.t.s,.slice x.t.a x.t.n x.t.c,.bool x.l.s,.slice x.l.a x.l.n x.l.c] 32)) 35 [.int .u16 m.x,.int .u16 m.y,.int .u16 m.z,.int .u16 m.t];rw[World.size_alloc] at h
  rw[hW];exact h)
 have HM1:=qh (HM.o.below hbW);have HX1:=qh (HX.o.below hbW);have HW:=qh hW;have lk:=run_look HM1.o m;clear hM hx hap hs hq hL hlo hW hbW;obtain⟨pl,hpl⟩:∃ pl,pl=place m L 0:=⟨_,rfl⟩;rw[<- hpl] at lk;have HPL:=qh hpl.symm;clear hpl;go_enter Tryz.func39,Tryz.ntmps39
 go_upto_region 1 with (fail)
 rw[show(w.alloc (.cells #[.bool x.t.s,.slice x.t.a x.t.n x.t.c,.bool x.l.s,.slice x.l.a x.l.n x.l.c] 32)).alloc (.cells #[.int .u16 m.x,.int .u16 m.y,.int .u16 m.z,.int .u16 m.t] 35)=W from HW.o.symm];have c50:=B5.o.ce 0;have c51:=B5.o.ce 1;have c52:=B5.o.ce 2;have c53:=B5.o.ce 3;have c5f:=B5.o.fz;have c5l:=B5.o.lt
 cases pl with
 | none =>
  simp only at lk
  go_upto_region 2 with (fail)
  obtain⟨V,hV⟩:∃ V,V=W.alloc (.cells #[.bool false,.slice none 0 0,.bool false,.slice none 0 0] 32):=⟨_,rfl⟩
  have hbV:Below W.heap.size W V:=by rw[hV];exact zk.alloc zj _
  rw[<- hV];have B4:=qh (B4.o.bl hbV);have B5:=qh (B5.o.bl hbV);have HM2:=qh (HM1.o.below hbV);have HX2:=qh (HX1.o.below hbV);have KG:=qk KG hbV;have up:=run_upd HM2.o m x q;clear hV hbV lk c50 c51 c52 c53 c5f c5l;have c50:=B5.o.ce 0;have c51:=B5.o.ce 1;have c52:=B5.o.ce 2;have c53:=B5.o.ce 3;have c40:=B4.o.ce 0;have c41:=B4.o.ce 1;have c42:=B4.o.ce 2;have c43:=B4.o.ce 3;go_wp2_with fail
  go_end0
  exact⟨rfl,⟨_,HM2.o.put HX2.o HAP.o HS.o,(upd_none x m q HPL.o).2,fun e he=>(upd_mem e he).imp id fun h=>Or.inl (by rw[h])⟩,(Only.of_below KG.o).put _⟩
 | some p =>
  simp only at lk
  go_upto_region 2 with (fail)
  obtain⟨V,hV⟩:∃ V,V=W.alloc (.cells #[.bool p.2.1.c.t.s,.slice p.2.1.c.t.a p.2.1.c.t.n p.2.1.c.t.c,.bool p.2.1.c.l.s,.slice p.2.1.c.l.a p.2.1.c.l.n p.2.1.c.l.c] 32):=⟨_,rfl⟩
  have hbV:Below W.heap.size W V:=by rw[hV];exact zk.alloc zj _
  have B6:=qh (show Bxs V W.heap.size 32 [.bool p.2.1.c.t.s,.slice p.2.1.c.t.a p.2.1.c.t.n p.2.1.c.t.c,.bool p.2.1.c.l.s,.slice p.2.1.c.l.a p.2.1.c.l.n p.2.1.c.l.c] by rw[hV];exact Bxs.new W 32 [.bool p.2.1.c.t.s,.slice p.2.1.c.t.a p.2.1.c.t.n p.2.1.c.t.c,.bool p.2.1.c.l.s,.slice p.2.1.c.l.a p.2.1.c.l.n p.2.1.c.l.c]);rw[<- hV];have B4:=qh (B4.o.bl hbV);have B5:=qh (B5.o.bl hbV);have HM2:=qh (HM1.o.below hbV);have HX2:=qh (HX1.o.below hbV);have KG:=qk KG hbV;clear hV hbV lk c50 c51 c52 c53 c5f c5l;obtain⟨-,hp2,-⟩:=place_some HPL.o;have hmem:p.2∈L:=List.mem_of_getElem? hp2;have HP:=qh (HM2.o.df _ hmem);have HQ2:=qh (HL.o _ hmem);clear hp2 hmem;have c40:=B4.o.ce 0;have c41:=B4.o.ce 1;have c42:=B4.o.ce 2;have c43:=B4.o.ce 3;have c60:=B6.o.ce 0;have c61:=B6.o.ce 1;have c62:=B6.o.ce 2;have c63:=B6.o.ce 3;go_wp2_with fail
  with_reducible refine(qadd HP.o.k.any (HP.o.k.len HQ2.o zj) HX2.o.k.any (HX2.o.k.len HQ.o zj)).mono ?_
  rintro e w2 ⟨y,rfl,hy,hb⟩;clear c40 c41 c42 c43 c60 c61 c62 c63;have B4:=qh (B4.o.bl hb);have B5:=qh (B5.o.bl hb);have HM3:=qh (HM2.o.below hb);have HVL:=qh (show ∀ e∈L,FV.apart e.1.c y from fun e he g hg hy2=>Nat.not_lt_of_le (hy.blks g hy2).1 ((HM2.o.df e he).blks g hg).2);have HY:=qh (hy.mono KG.o.size:DF w2 w.heap.size y (p.2.2+q));have KG:=qk KG hb;clear hy hb;have c40:=B4.o.ce 0;have c41:=B4.o.ce 1;have c42:=B4.o.ce 2;have c43:=B4.o.ce 3;have c4f:=B4.o.fz;have c4l:=B4.o.lt
  go_upto_region 4 with (fail)
  clear c40 c41 c42 c43 c4f c4l;obtain⟨U,hU⟩:∃ U,U=(((w2.setCell ⟨w.heap.size,0,none⟩ (.bool y.t.s)).setCell ⟨w.heap.size,1,none⟩ (.slice y.t.a y.t.n y.t.c)).setCell ⟨w.heap.size,2,none⟩ (.bool y.l.s)).setCell ⟨w.heap.size,3,none⟩ (.slice y.l.a y.l.n y.l.c):=⟨_,rfl⟩;rw[<- hU];have hb0:=B4.o;have b1:=hb0.put 0 (.bool y.t.s);have b2:=b1.put 1 (.slice y.t.a y.t.n y.t.c);have b3:=b2.put 2 (.bool y.l.s);have b4:=b3.put 3 (.slice y.l.a y.l.n y.l.c);have B4:=qh (show Bxs U w.heap.size 32 [.bool y.t.s,.slice y.t.a y.t.n y.t.c,.bool y.l.s,.slice y.l.a y.l.n y.l.c] by rw[hU];exact b4);have HM4:=qh (show MK U lo b L by rw[hU];exact(((HM3.o.setBxs hb0 (by decide) 0 _).setBxs b1 (by decide) 1 _).setBxs b2 (by decide) 2 _).setBxs b3 (by decide) 3 _);have HY:=qh (show DF U w.heap.size y (p.2.2+q) by rw[hU];exact(((HY.o.setBxs hb0 (by decide) 0 _).setBxs b1 (by decide) 1 _).setBxs b2 (by decide) 2 _).setBxs b3 (by decide) 3 _);have B5:=qh (show Bxs U (w.heap.size+1) 35 [.int .u16 m.x,.int .u16 m.y,.int .u16 m.z,.int .u16 m.t] by rw[hU];exact(((B5.o.oz).oz).oz).oz);have KG:=qh (show Below w.heap.size w U by rw[hU];exact(((KG.o.setCell zj _).setCell zj _).setCell zj _).setCell zj _);have up:=run_upd HM4.o m y (p.2.2+q);clear hU hb0 b1 b2 b3 b4;have c50:=B5.o.ce 0;have c51:=B5.o.ce 1;have c52:=B5.o.ce 2
  have c53:=B5.o.ce 3;have c40:=B4.o.ce 0;have c41:=B4.o.ce 1;have c42:=B4.o.ce 2;have c43:=B4.o.ce 3;go_wp2_with fail
  go_end0;exact⟨rfl,⟨_,HM4.o.put (HY.o.mono HLO.o) HVL.o HS.o,upd_tm y m q HPL.o,fun e he=>(upd_mem e he).imp id fun h=>Or.inr (by rw[h];exact DF.putObj HY.o HM4.o.blk _)⟩,(Only.of_below KG.o).put _⟩
open Go.ChangeShapes Go.WideShapes Go.ChangeAt
def RawQ (w:World) (x:PV) (L:List TO):Prop:=RT w x.a (L.map Prod.fst)/\L.length=x.n/\x.n<=x.c/\(∀ e∈L,TO.ok w e)/\(∀ e∈L,e.1.m.Small)
theorem cellsTerm:Tryz.prog.cellsOf 37=8:=by kernel_rfl
theorem cellsMono:Tryz.prog.cellsOf 35=4:=by kernel_rfl
theorem cellsU16:Tryz.prog.cellsOf 33=1:=by kernel_rfl
theorem list_of {α:Type} {Φ:Nat->α->Prop}:∀ (n:Nat),(∀ i,i<n->∃ e,Φ i e)->∃ L:List α,L.length=n/\∀ i e,L[i]?=some e->Φ i e
 | 0,_=>⟨[],rfl,fun i e h=>by simp at h⟩
 | n+1,h=>by
  obtain⟨L,h1,h2⟩:=list_of n fun i hi=>h i (by omega)
  obtain⟨e,he⟩:=h n (by omega);refine⟨L++[e],by rw[List.length_append,h1];rfl,fun i e' hi=>?_⟩;by_cases hl:i<n
  ·rw[List.getElem?_append_left (by omega)] at hi;exact h2 i e' hi
  ·have:i=n:=by
    have:=(List.getElem?_eq_some_iff.1 hi).1;rw[List.length_append,h1] at this;simp at this;omega
   subst this;rw[List.getElem?_append_right (by omega),h1,Nat.sub_self] at hi;have hi:some e=some e':=hi;exact(Option.some.inj hi)▸he
theorem open_termT {H:Type} {enc:TypeId × Value->H} {W:World} {sp:Nat->Bool} {hd:Bool} {fuel:Nat} {l:List Value} {x:DataW H × List MemPlace}
  (hf:DataW.trod enc Tryz.prog W 0 sp hd fuel 37 l=some x):∃ e:TO,l=e.1.cells/\TO.ok W e/\e.1.m.Small:=by
 obtain⟨xs,m,_,_,hlen,hxl,hfld⟩:=DataW.trod_struct Tryz.underlying37 hf;have hlen:l.length=8:=hlen.trans cellsTerm
 obtain⟨x0,x1,x2,x3,x4,x5,x6,x7,rfl⟩:∃ x0 x1 x2 x3 x4 x5 x6 x7,l=[x0,x1,x2,x3,x4,x5,x6,x7]:=by
  match l,hlen with
  | [x0,x1,x2,x3,x4,x5,x6,x7],_=>exact⟨x0,x1,x2,x3,x4,x5,x6,x7,rfl⟩
 have h0:DataW.trod enc Tryz.prog W 0 sp hd m 32 (([x0,x1,x2,x3,x4,x5,x6,x7].drop 0).take (Tryz.prog.cellsOf 32))=xs[0]?:=hfld 0 _ rfl;have h1:DataW.trod enc Tryz.prog W 0 sp hd m 35 (([x0,x1,x2,x3,x4,x5,x6,x7].drop 4).take (Tryz.prog.cellsOf 35))=xs[1]?:=hfld 1 _ rfl;have hx:xs.length=2:=hxl;rw[List.getElem?_eq_getElem (by omega)] at h0;rw[List.getElem?_eq_getElem (by omega)] at h1;rw[cellsFrac] at h0;rw[cellsMono] at h1;obtain⟨s1,a1,n1,c1,o1,s2,a2,n2,c2,o2,e0,r1,l1,r2,l2⟩:=open_fracT h0;obtain⟨a,e1,hb⟩:=LawPost.four_u16 Tryz.underlying35 Tryz.underlying33 cellsU16 cellsMono h1;have e0:[x0,x1,x2,x3]=[.bool s1,.slice a1 n1 c1,.bool s2,.slice a2 n2 c2]:=e0;have e1:[x4,x5,x6,x7]=[.int .u16 (a 0),.int .u16 (a 1),.int .u16 (a 2),.int .u16 (a 3)]:=e1;simp only[List.cons.injEq,and_true] at e0 e1;obtain⟨rfl,rfl,rfl,rfl⟩:=e0;obtain⟨rfl,rfl,rfl,rfl⟩:=e1;have b0:=hb 0 (by omega);have b1:=hb 1 (by omega);have b2:=hb 2 (by omega);have b3:=hb 3 (by omega);refine⟨(⟨⟨⟨s1,a1,n1,c1⟩,⟨s2,a2,n2,c2⟩⟩,⟨(a 0).toNat,(a 1).toNat,(a 2).toNat,(a 3).toNat⟩⟩,open Classical in if okF s1 n1 o1 s2 n2 o2 then some (valF s1 n1 o1 s2 n2 o2) else none),?_,?_,?_⟩
 ·unfold TV.cells;simp only[Int.toNat_of_nonneg b0.1,Int.toNat_of_nonneg b1.1,Int.toNat_of_nonneg b2.1,Int.toNat_of_nonneg b3.1]
 ·by_cases hk:okF s1 n1 o1 s2 n2 o2
  ·simp only[if_pos hk];exact KF.raw r1 l1 r2 l2 hk
  ·simp only[if_neg hk];exact BF.raw r1 l1 r2 l2 hk
 ·exact⟨by show(a 0).toNat<=65535;omega,by show(a 1).toNat<=65535;omega,by show(a 2).toNat<=65535;omega,by show(a 3).toNat<=65535;omega⟩
theorem cells_at {W:World} {a:Addr} {n:Nat} {l:List Value} (h:W.cells? 0 a n=some l) (i:Nat) (hi:i<n):W.cell? (a.add i)=l[i]?:=by
 unfold World.cells? at h;rw[if_pos (Nat.zero_le _)] at h;exact mapM_some_get h i i (by rw[List.getElem?_range hi])
theorem open_polyT {H:Type} {enc:TypeId × Value->H} {W:World} {sp:Nat->Bool} {hd:Bool} {fuel:Nat} {v:Value} {x:DataW H × List MemPlace}
  (hf:DataW.trod enc Tryz.prog W 0 sp hd fuel 23 [v]=some x):∃ (y:PV) (L:List TO),v=y.v/\RawQ W y L:=by
 rcases DataW.trod_slice Tryz.underlying23 hf with ⟨e,_⟩ | ⟨a,len,cap,elems,rest,m,_,e,_,_,hl,_,hel,hcs,_⟩
 ·simp only[List.cons.injEq,and_true] at e;exact⟨⟨none,0,0⟩,[],e,RT.nil _ _,rfl,zj,fun e he=>(by cases he),fun e he=>(by cases he)⟩
 ·simp only[List.cons.injEq,and_true] at e
  obtain⟨L,hL1,hL2⟩:=list_of (Φ:=fun i (e:TO)=>W.cells? 0 (a.add (i*8)) 8=some e.1.cells/\TO.ok W e/\e.1.m.Small) len fun i hi=>by
   have h1:=hcs i hi;rw[cellsTerm,List.getElem?_eq_getElem (by omega)] at h1;obtain⟨l,h2,h3⟩:=Option.bind_eq_some_iff.1 h1;obtain⟨e,h4,h5,h6⟩:=open_termT h3;exact⟨e,by rw[h2,h4],h5,h6⟩
  refine⟨⟨some a,len,cap⟩,L,e,⟨fun hn=>?_⟩,hL1,hl,fun e he=>?_,fun e he=>?_⟩
  ·have hpos:0<L.length:=List.length_pos_iff.2 fun h=>hn (by rw[h];rfl)
   obtain⟨h1,-,-⟩:=hL2 0 _ (List.getElem?_eq_getElem hpos);have h2:=cells_at h1 0 (by omega);obtain⟨b,off,spot⟩:=a
   have hspot:spot=none:=by
    have h3:=World.cell?_spot (h2.trans rfl)
    simpa[Addr.add] using h3
   subst hspot;refine⟨b,off,rfl,fun i t hi j v hj=>?_⟩;rw[List.getElem?_map] at hi;obtain⟨e,he,rfl⟩:=Option.map_eq_some_iff.1 hi;obtain⟨h3,-,-⟩:=hL2 i e he;have hj8:j<8:=(List.getElem?_eq_some_iff.1 hj).1;have h4:=cells_at h3 j hj8;rw[Go.WideShapes.add_plain,Go.WideShapes.add_plain] at h4;exact h4.trans hj
  ·obtain⟨i,hi⟩:=List.mem_iff_getElem?.1 he;exact(hL2 i e hi).2.1
  ·obtain⟨i,hi⟩:=List.mem_iff_getElem?.1 he;exact(hL2 i e hi).2.2
theorem open_poly {H:Type} {enc:TypeId × Value->H} {W:World} {base:Nat} {r:Reach} {sp:Nat->Bool} {hd:Bool} {v:Value} {d:DataW H} {p:List MemPlace}
  (hok:Value.okWide Tryz.prog W r base 23 v) (h:DataW.Trod enc Tryz.prog W 0 sp hd 23 v d p):∃ (y:PV) (L:List TO),v=y.v/\RawQ W y L:=by
 obtain⟨fuel,hf⟩:=h;obtain⟨a,n,c,rfl⟩:=Go.WideShapes.okWide_slice Tryz.underlying23 hok;exact open_polyT hf
theorem RawQ.below {w w':World} {x:PV} {L:List TO} (h:RawQ w x L) (hb:Below w.heap.size w w'):RawQ w' x L:=by
 obtain⟨h1,h2,h3,h4,h5⟩:=h;refine⟨h1.below hb,h2,h3,fun e he=>?_,h5⟩;have h6:=h4 e he;unfold TO.ok at h6 ⊢;split at h6
 ·exact h6.below hb
 ·exact h6.below hb
theorem RawQ.raw {w:World} {x:PV} {L:List TO} (h:RawQ w x L) (hl:∀ e∈L,LF e.1.c 900000):RawP w x L:=⟨h.1,h.2.1,h.2.2.1,h.2.2.2.1,h.2.2.2.2,hl⟩
end Pol
namespace Limb
open Go.RowKit Go.Sort
theorem kn0 (w:World):KN w ⟨false,none,0,0⟩ 0:=⟨by decide,by show 0=lenB 0;rw[lenB_zero],Rd.nil w none _,Nat.le_refl 0⟩
end Limb
namespace Pol
open Limb
def limT (x y:Nat) (q:Rat):Tm:=(⟨x,y,0,0⟩,q)
def limO (k b a c j:Nat):List Tm:=(List.range j).map fun i=>limT (a-(i+1)*k) (c+i*b) 1
def limS (k b a c j:Nat):DS:=⟨[limT (a-j*k) (c+j*b) 1],[],[limO k b a c j]⟩
def limE (k b a c j:Nat):DS:=⟨[],[limT (a-j*k) (c+j*b) 1],[limO k b a c j]⟩
def LimI (k b a c:Nat) (s:DS):Prop:=∃ j,j*k<=a/\c+j*b<=65535/\(s=limS k b a c j\/(a-j*k<k/\s=limE k b a c j))
theorem limO_len (k b a c j:Nat):(limO k b a c j).length=j:=by unfold limO;rw[List.length_map,List.length_range]
theorem LimI.all {k b a c:Nat} (hk:1<=k) {s:DS} (h:LimI k b a c s):(∀ t∈s.p,t.2=1)/\(∀ t∈s.r,t.2=1)/\(∀ q∈s.os,∀ t∈q,t.2=1)/\s.p.length<=1/\s.r.length<=1/\∀ q∈s.os,q.length<=a:=by
 have ho:∀ j,j*k<=a->(∀ t∈limO k b a c j,t.2=1)/\(limO k b a c j).length<=a:=fun j hj=>⟨fun t ht=>by
  obtain⟨i,_,rfl⟩:=List.mem_map.1 ht
  rfl,by rw[limO_len];exact zm (Nat.le_mul_of_pos_right j hk) hj⟩
 obtain⟨j,hj,hb,rfl | ⟨-,rfl⟩⟩:=h
 ·exact⟨fun t ht=>by rw[List.mem_singleton.1 ht];rfl,fun t ht=>(by cases ht),fun q hq=>by rw[List.mem_singleton.1 hq];exact(ho j hj).1,zj,Nat.zero_le _,fun q hq=>by rw[List.mem_singleton.1 hq];exact(ho j hj).2⟩
 ·exact⟨fun t ht=>(by cases ht),fun t ht=>by rw[List.mem_singleton.1 ht];rfl,fun q hq=>by rw[List.mem_singleton.1 hq];exact(ho j hj).1,Nat.zero_le _,zj,fun q hq=>by rw[List.mem_singleton.1 hq];exact(ho j hj).2⟩
end Pol
namespace Limb
open Go.RowKit Go.Sort
theorem qsameFr_n1 {w:World} {x1 x2:FV} {p1 p2:Rat} (h1:KF w x1 p1) (b1:LF x1 900000) (h2:KF w x2 p2) (b2:LF x2 900000) (e:p1.num≠p2.num):Calls Tryz.prog 41 #[x1.v,x2.v] w fun e w'=>e=.returned (.bool false)/\Below w.heap.size w w':=by
 have KG:=qh (Below.refl w.heap.size w);have N1:=qh h1;have N2:=qh h2;have LQp1:=qh (h1.lq b1);have LQp2:=qh (h2.lq b2);have HE:=qh e;clear h1 h2 b1 b2 e;go_enter Tryz.func41,Tryz.ntmps41
 go_upto_region 1 with (fail)
 obtain⟨v3,hV⟩:∃ V,V=(w.alloc (.cells #[.bool x1.t.s,.slice x1.t.a x1.t.n x1.t.c,.bool x1.l.s,.slice x1.l.a x1.l.n x1.l.c] 32)).alloc (.cells #[.bool x2.t.s,.slice x2.t.a x2.t.n x2.t.c,.bool x2.l.s,.slice x2.l.a x2.l.n x2.l.c] 32):=⟨_,rfl⟩
 have hbV:Below w.heap.size w v3:=by rw[hV];exact((zk.alloc zj _).alloc (by go_size) _)
 have BX1:=qh (show Bxs v3 (w.heap.size) 32 [.bool x1.t.s,.slice x1.t.a x1.t.n x1.t.c,.bool x1.l.s,.slice x1.l.a x1.l.n x1.l.c] by have h:=(Bxs.new (w) 32 [.bool x1.t.s,.slice x1.t.a x1.t.n x1.t.c,.bool x1.l.s,.slice x1.l.a x1.l.n x1.l.c]).alloc (.cells #[.bool x2.t.s,.slice x2.t.a x2.t.n x2.t.c,.bool x2.l.s,.slice x2.l.a x2.l.n x2.l.c] 32);rw[hV];exact h);have BX2:=qh (show Bxs v3 (w.heap.size+1) 32 [.bool x2.t.s,.slice x2.t.a x2.t.n x2.t.c,.bool x2.l.s,.slice x2.l.a x2.l.n x2.l.c] by have h:=Bxs.new (w.alloc (.cells #[.bool x1.t.s,.slice x1.t.a x1.t.n x1.t.c,.bool x1.l.s,.slice x1.l.a x1.l.n x1.l.c] 32)) 32 [.bool x2.t.s,.slice x2.t.a x2.t.n x2.t.c,.bool x2.l.s,.slice x2.l.a x2.l.n x2.l.c];simp only[World.size_alloc] at h;rw[hV];exact h);rw[show(w.alloc (.cells #[.bool x1.t.s,.slice x1.t.a x1.t.n x1.t.c,.bool x1.l.s,.slice x1.l.a x1.l.n x1.l.c] 32)).alloc (.cells #[.bool x2.t.s,.slice x2.t.a x2.t.n x2.t.c,.bool x2.l.s,.slice x2.l.a x2.l.n x2.l.c] 32)=v3 from hV.symm];have KG:=qk KG hbV;clear hV hbV;have cBX10:=BX1.o.ce 0;have cBX11:=BX1.o.ce 1;have cBX12:=BX1.o.ce 2;have cBX13:=BX1.o.ce 3;have cBX1f:=BX1.o.fz;have cBX1l:=BX1.o.lt;have cBX20:=BX2.o.ce 0;have cBX21:=BX2.o.ce 1;have cBX22:=BX2.o.ce 2;have cBX23:=BX2.o.ce 3;have cBX2f:=BX2.o.fz;have cBX2l:=BX2.o.lt;go_wp2_with fail
 have CT:=qh (sameN ((N1.o.below KG.o)).t (((N1.o.below KG.o)).t.len (qh LQp1.o.t).o (by decide)) ((N2.o.below KG.o)).t (((N2.o.below KG.o)).t.len (qh LQp2.o.t).o (by decide)));rw[show decide (p1.num=p2.num)=false from zo HE.o] at CT;with_reducible refine CT.o.mono ?_
 rintro e w4 ⟨rfl,hb⟩;clear CT;clear cBX10 cBX11 cBX12 cBX13 cBX1f cBX1l;clear cBX20 cBX21 cBX22 cBX23 cBX2f cBX2l;clear BX1;clear BX2;have KG:=qk KG hb;clear hb;go_wp2_with fail
 go_ret;exact⟨rfl,KG.o⟩
theorem qsameFr_n2 {w:World} {x1 x2:FV} {p1 p2:Rat} (h1:KF w x1 p1) (b1:LF x1 900000) (h2:KF w x2 p2) (b2:LF x2 900000) (e:p1.num=p2.num) (e2:(p1.den:Int)≠(p2.den:Int)):Calls Tryz.prog 41 #[x1.v,x2.v] w fun e w'=>e=.returned (.bool false)/\Below w.heap.size w w':=by
 have KG:=qh (Below.refl w.heap.size w);have N1:=qh h1;have N2:=qh h2;have LQp1:=qh (h1.lq b1);have LQp2:=qh (h2.lq b2);have HE:=qh e;have HE2:=qh e2;clear h1 h2 b1 b2 e e2;go_enter Tryz.func41,Tryz.ntmps41
 go_upto_region 1 with (fail)
 obtain⟨v3,hV⟩:∃ V,V=(w.alloc (.cells #[.bool x1.t.s,.slice x1.t.a x1.t.n x1.t.c,.bool x1.l.s,.slice x1.l.a x1.l.n x1.l.c] 32)).alloc (.cells #[.bool x2.t.s,.slice x2.t.a x2.t.n x2.t.c,.bool x2.l.s,.slice x2.l.a x2.l.n x2.l.c] 32):=⟨_,rfl⟩
 have hbV:Below w.heap.size w v3:=by rw[hV];exact((zk.alloc zj _).alloc (by go_size) _)
 have BX1:=qh (show Bxs v3 (w.heap.size) 32 [.bool x1.t.s,.slice x1.t.a x1.t.n x1.t.c,.bool x1.l.s,.slice x1.l.a x1.l.n x1.l.c] by have h:=(Bxs.new (w) 32 [.bool x1.t.s,.slice x1.t.a x1.t.n x1.t.c,.bool x1.l.s,.slice x1.l.a x1.l.n x1.l.c]).alloc (.cells #[.bool x2.t.s,.slice x2.t.a x2.t.n x2.t.c,.bool x2.l.s,.slice x2.l.a x2.l.n x2.l.c] 32);rw[hV];exact h);have BX2:=qh (show Bxs v3 (w.heap.size+1) 32 [.bool x2.t.s,.slice x2.t.a x2.t.n x2.t.c,.bool x2.l.s,.slice x2.l.a x2.l.n x2.l.c] by have h:=Bxs.new (w.alloc (.cells #[.bool x1.t.s,.slice x1.t.a x1.t.n x1.t.c,.bool x1.l.s,.slice x1.l.a x1.l.n x1.l.c] 32)) 32 [.bool x2.t.s,.slice x2.t.a x2.t.n x2.t.c,.bool x2.l.s,.slice x2.l.a x2.l.n x2.l.c];simp only[World.size_alloc] at h;rw[hV];exact h);rw[show(w.alloc (.cells #[.bool x1.t.s,.slice x1.t.a x1.t.n x1.t.c,.bool x1.l.s,.slice x1.l.a x1.l.n x1.l.c] 32)).alloc (.cells #[.bool x2.t.s,.slice x2.t.a x2.t.n x2.t.c,.bool x2.l.s,.slice x2.l.a x2.l.n x2.l.c] 32)=v3 from hV.symm];have KG:=qk KG hbV;clear hV hbV;have cBX10:=BX1.o.ce 0;have cBX11:=BX1.o.ce 1;have cBX12:=BX1.o.ce 2;have cBX13:=BX1.o.ce 3;have cBX1f:=BX1.o.fz;have cBX1l:=BX1.o.lt;have cBX20:=BX2.o.ce 0;have cBX21:=BX2.o.ce 1;have cBX22:=BX2.o.ce 2;have cBX23:=BX2.o.ce 3;have cBX2f:=BX2.o.fz;have cBX2l:=BX2.o.lt;go_wp2_with fail
 have CT:=qh (sameN ((N1.o.below KG.o)).t (((N1.o.below KG.o)).t.len (qh LQp1.o.t).o (by decide)) ((N2.o.below KG.o)).t (((N2.o.below KG.o)).t.len (qh LQp2.o.t).o (by decide)));rw[show decide (p1.num=p2.num)=true from decide_eq_true HE.o] at CT;with_reducible refine CT.o.mono ?_
 rintro e w4 ⟨rfl,hb⟩;clear CT;clear cBX10 cBX11 cBX12 cBX13 cBX1f cBX1l;clear cBX20 cBX21 cBX22 cBX23 cBX2f cBX2l;have BX1:=qh (BX1.o.bl hb);have BX2:=qh (BX2.o.bl hb);have KG:=qk KG hb;clear hb;have cBX10:=BX1.o.ce 0;have cBX11:=BX1.o.ce 1;have cBX12:=BX1.o.ce 2;have cBX13:=BX1.o.ce 3;have cBX1f:=BX1.o.fz;have cBX1l:=BX1.o.lt;have cBX20:=BX2.o.ce 0;have cBX21:=BX2.o.ce 1;have cBX22:=BX2.o.ce 2;have cBX23:=BX2.o.ce 3;have cBX2f:=BX2.o.fz;have cBX2l:=BX2.o.lt;go_wp2_with fail
 have CT:=qh (sameN ((N1.o.below KG.o)).l (((N1.o.below KG.o)).l.len (qh LQp1.o.l).o (by decide)) ((N2.o.below KG.o)).l (((N2.o.below KG.o)).l.len (qh LQp2.o.l).o (by decide)));rw[show decide ((p1.den:Int)=(p2.den:Int))=false from zo HE2.o] at CT;with_reducible refine CT.o.mono ?_
 rintro e w5 ⟨rfl,hb⟩;clear CT;clear cBX10 cBX11 cBX12 cBX13 cBX1f cBX1l;clear cBX20 cBX21 cBX22 cBX23 cBX2f cBX2l;clear BX1;clear BX2;have KG:=qk KG hb;clear hb;go_wp2_with fail
 go_ret;exact⟨rfl,KG.o⟩
open Classical in
theorem qsameFrD {w:World} {x1 x2:FV} {p1 p2:Rat} (h1:KF w x1 p1) (b1:LF x1 900000) (h2:KF w x2 p2) (b2:LF x2 900000):Calls Tryz.prog 41 #[x1.v,x2.v] w fun e w'=>e=.returned (.bool (decide (p1=p2)))/\Below w.heap.size w w':=by
 by_cases e:p1.num=p2.num
 ·by_cases e2:(p1.den:Int)=(p2.den:Int)
  ·have h:=qsameFr h1 b1 h2 b2 (Rat.ext e (Int.ofNat.inj e2));rw[decide_eq_true (Rat.ext e (Int.ofNat.inj e2))];exact h
  ·rw[zo (fun h=>e2 (by rw[h]))];exact qsameFr_n2 h1 b1 h2 b2 e e2
 ·rw[zo (fun h=>e (by rw[h]))];exact qsameFr_n1 h1 b1 h2 b2 e
end Limb
namespace Mono
open Go.RowKit Go.Sort
theorem orders_lays (w:World) :
  Calls Tryz.prog 100 #[] w fun e w'=>e=.returned (.map (some w.heap.size))/\Ords w.heap.size w'/\Below w.heap.size w w'/\w'.drawn=w.drawn:=by
 have hmm:=fun (t:TypeId) (w:World)=>run_makeMap (P:=Tryz.prog) t w
 have u0:=fun (o:Obj) v=>upd0 (X:=(w.alloc (.map #[] 0)).alloc o) (r:=w.heap.size) ((Below.heap_alloc _ o _ (by simp)).trans (Go.heap_alloc_new w _)) 1 v
 have u1:=fun (o1:Obj) v1 (o2:Obj) v=>upd1 (X:=(putObj ((w.alloc (.map #[] 0)).alloc o1) w.heap.size (.map #[⟨.int .u8 1,v1,0⟩] 1)).alloc o2) (r:=w.heap.size) (k1:=1) (v1:=v1)
  ((Below.heap_alloc _ o2 _ (by rw[size_putObj];simp;omega)).trans (putObj_same ((Below.heap_alloc _ o1 _ (by simp)).trans (Go.heap_alloc_new w _)))) 2 v rfl
 have hok:=qh (ordW_ok w);go_enter Tryz.func100,Tryz.ntmps100;go_wp2;go_ret;exact⟨rfl,hok.o.1,hok.o.2,rfl⟩
theorem lexical_lays (a b:Nat->Int) (w:World) :
  Calls Tryz.prog 101 #[mvf a,mvf b] w fun e w'=>e=.returned (.int .i64 (lexM a b))/\Below w.heap.size w w'/\w.drawn<=w'.drawn:=by
 have HX:=qh (boxes w 35 a b);go_enter Tryz.func101,Tryz.ntmps101;go_wp2;go_quiet (exact Calls.quiet_of_same (compare_any _ _ _ _ a b _ (HX.o.1.of_block rfl) (HX.o.2.of_block rfl)));go_wp2;go_ret;exact⟨rfl,below_drewN (by go_grown) _,Nat.le_add_right _ _⟩
theorem cmp_lays (a b:Nat->Int) (w:World) :
  Calls Tryz.prog 33 #[.int .u8 0,mvf a,mvf b] w fun e w'=>e=.returned (.int .i64 (lexM a b))/\Below w.heap.size w w'/\w.drawn<=w'.drawn:=by
 have HX:=qh (boxes w 35 a b);go_enter Tryz.func33,Tryz.ntmps33;go_wp2_with fail
 refine(orders_lays _).mono ?_;rintro e w1 ⟨rfl,ho,hb1,hd1⟩;have A1:=rowBelow HX.o.1 hb1 (by simp;omega);have B1:=rowBelow HX.o.2 hb1 (by simp);have G1:=qh (zk.alloc zj _ |>.alloc (by go_size) _ |>.trans (hb1.mono (by go_size)):Below w.heap.size w w1);have D1:=qh (show w.drawn<=w1.drawn by rw[hd1];exact zj);simp only[World.size_alloc] at ho;have O1:=qh ho;have lk:=look2 ho.1 0;obtain⟨a10,a11,a12,a13⟩:=rowc A1;obtain⟨b10,b11,b12,b13⟩:=rowc B1;have RA1:=qh A1;have RB1:=qh B1;have LT1:=qh (show w.heap.size+1+1+1+1<w1.heap.size from block_lt_of_cell ho.2.2.1);clear ho hb1 A1 B1 hd1;simp only[show((0:Int)==1)=false from rfl,show((0:Int)==2)=false from rfl,Bool.false_eq_true,if_false] at lk;go_wp2_with fail
 refine wp_loop_rounds 1 ?_;rw[rounds_succ];go_wp2_with fail
 refine(lexical_lays a b _).mono ?_;rintro e w2 ⟨rfl,hb2,hd2⟩;have RA2:=qh (rowBelow RA1.o hb2 (by have:=LT1.o;omega));have RB2:=qh (rowBelow RB1.o hb2 (by have:=LT1.o;omega));have G2:=qh (G1.o.trans (hb2.mono G1.o.size));have D2:=qh (zm D1.o hd2);obtain⟨a20,a21,a22,a23⟩:=rowc RA2.o;obtain⟨b20,b21,b22,b23⟩:=rowc RB2.o;clear hb2 hd2;go_wp2;go_ret;exact⟨rfl,G2.o,D2.o⟩
end Mono
namespace Pol
open Go.RowKit Go.Sort Limb
def Mo.f (m:Mo) (i:Nat):Int:=match i with
 | 0=>m.x
 | 1=>m.y
 | 2=>m.z
 | _=>m.t
def cmpMo (a b:Mo):Int:=if a.lt b then -1 else if b.lt a then 1 else 0
theorem lex_cmpMo (a b:Mo):Mono.lexM a.f b.f=cmpMo a b:=by
 have e:Mono.lexM a.f b.f=(if (a.x:Int)≠b.x then (if (a.x:Int)<b.x then -1 else if (b.x:Int)<a.x then 1 else 0) else if (a.y:Int)≠b.y then (if (a.y:Int)<b.y then -1 else if (b.y:Int)<a.y then 1 else 0) else if (a.z:Int)≠b.z then (if (a.z:Int)<b.z then -1 else if (b.z:Int)<a.z then 1 else 0) else (if (a.t:Int)<b.t then -1 else if (b.t:Int)<a.t then 1 else 0)):=rfl;rw[e]
 rcases Mo.lt_or a b with h | h | h
 ·rw[cmpMo,if_pos h];unfold Mo.lt at h
  repeat' split
  all_goals omega
 ·subst h;rw[cmpMo,if_neg (Mo.lt_irrefl a),if_neg (Mo.lt_irrefl a)]
  repeat' split
  all_goals omega
 ·rw[cmpMo,if_neg (Mo.lt_asymm h),if_pos h];unfold Mo.lt at h
  repeat' split
  all_goals omega
theorem cmpMo_lt {a b:Mo}:cmpMo a b<0↔a.lt b:=by
 unfold cmpMo;by_cases h:a.lt b
 ·simp[h]
 ·by_cases k:b.lt a <;> simp[h,k]
def Lays (w w':World):Prop:=Below w.heap.size w w'/\w.drawn<=w'.drawn
theorem Lays.grow {w w':World} (h:Lays w w'):∃ q os,w'=grow (w.drewN q) os:=by
 obtain⟨⟨h1,h2,h3,h4,h5⟩,h6⟩:=h;refine⟨w'.drawn-w.drawn,w'.heap.extract w.heap.size w'.heap.size,?_⟩
 have e:w'.heap=w.heap++w'.heap.extract w.heap.size w'.heap.size:=by
  apply Array.ext_getElem?;intro i;rw[Array.getElem?_append];split
  ·rename_i hi;exact h5 i hi
  ·rename_i hi;rw[Array.getElem?_extract];by_cases hl:i<w'.heap.size
   ·rw[if_pos (by omega),show w.heap.size+(i-w.heap.size)=i by omega]
   ·rw[if_neg (by omega),Array.getElem?_eq_none (by omega)]
 obtain⟨q,hq⟩:∃ q,w'.drawn=w.drawn+q:=⟨w'.drawn-w.drawn,by omega⟩;rw[hq,Nat.add_sub_cancel_left]
 cases w
 cases w'
 simp only at h1 h2 h3 e hq;subst h1 h2 h3 hq;exact(congrArg (fun h=>({ heap:=h,tape:=_,drawn:=_,os:=_,output:=_ }:World)) e).trans rfl
theorem cmp_lex (a b:Mo) (w:World):Calls Tryz.prog 33 #[.int .u8 0,Mo.v a,Mo.v b] w fun e w'=>e=.returned (.int .i64 (cmpMo a b))/\Lays w w':=by
 rw[<- lex_cmpMo];exact Mono.cmp_lays a.f b.f w
theorem falls_lays (a b:Mo) (w:World):Calls Tryz.prog 113 #[Mo.v a,Mo.v b] w fun e w'=>e=.returned (.int .i64 (cmpMo b a))/\Lays w w':=by
 have C:=qh (fun w'=>cmp_lex b a w');go_enter Tryz.func113,Tryz.ntmps113;go_wp2_with fail
 with_reducible refine(C.o _).mono ?_
 rintro e w1 ⟨rfl,hb,hd⟩;have HB:=qh (show Below w.heap.size w w1 from(zk.alloc zj _ |>.alloc (by go_size) _).trans (hb.mono (by go_size)));have HD:=qh (show w.drawn<=w1.drawn from hd);clear hb hd C;go_wp2_with fail
 go_ret;exact⟨rfl,HB.o,HD.o⟩
theorem falls_any (a b:Mo) (w:World):Calls Tryz.prog 113 #[Mo.v a,Mo.v b] w fun e w'=>e=.returned (.int .i64 (cmpMo b a))/\Below w.heap.size w w':=(falls_lays a b w).mono fun _ _ h=>⟨h.1,h.2.1⟩
end Pol
namespace Limb
open Go.RowKit Go.Sort
theorem num_den (q:Rat):(q.num:Rat)/((q.den:Int):Rat)=q:=by
 rw[<- Rat.divInt_eq_div];exact Rat.num_divInt_den q
end Limb
end Go.Proofs.YthacfgmdihcffaaGreatDoor
